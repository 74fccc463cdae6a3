/- Part 5: what the functions of the program compute, function by function. No condition. -/
import Derived.Test.YtgecccghlgpmjaaGreatPd
set_option linter.unusedVariables false
set_option linter.unusedSimpArgs false
open Array renaming getElem?_toList→zaL,length_toList→zbc
open Bool renaming and_eq_true→zag,false_eq_true→zai,not_true→zak,not_false→zal,and_self→zat,false_and→zav,true_and→zay,not_eq_true→zaS,and_false→zaT,or_eq_false_iff→zaU,not_eq_true'→za0,or_eq_true→za5,false_or→za6,and_true→za7,true_or→zbl
open Int renaming ofNat_eq_natCast→zaf,reduceEq→zaj
open List renaming getElem?_eq_getElem→zah,map_cons→zam,getElem?_eq_some_iff→zao,all_cons→zap,length_cons→zar,getElem?_cons_zero→zas,mem_cons_self→zau,length_append→zaw,mem_cons_of_mem→zax,drop_eq_getElem_cons→zaz,mem_cons→zaA,length_nil→zaB,getElem?_append_right→zaC,not_mem_nil→zaD,cons_append→zaF,append_assoc→zaH,mem_append→zaI,nil_append→zaJ,mem_of_getElem?→zaM,all_eq_true→zaN,getElem?_cons_succ→zaO,getElem?_append_left→zaP,mem_singleton→zaV,length_map→zaZ,length_eq_zero_iff→za1,getElem_mem→za4,getElem?_map→za9,mem_range→zba,drop_length→zbb,append_nil→zbg,headD_cons→zbh,map_nil→zbn
open List.cons renaming injEq→zbo
open Nat renaming le_refl→zan,zero_add→zaK,lt_irrefl→zaX,zero_le→zaY,beq_refl→za8,lt_succ_self→zbe,lt_or_ge→zbi,add_zero→zbk
open Option renaming bind_some→zaa,map_some→zab,map_eq_some_iff→zad,getD_some→zaE,isSome_none→zaG,getD_none→zaR,isSome_some→zbj
open Option.some renaming injEq→zac
open Prod.mk renaming injEq→zaq
namespace Go.AI.Tryz
theorem ql2 (n:Nat)(E:qaR)(l:Nat)(args:List zA)(s:ASt):(qag CP (n+1) E).callv (.yield l) args s=qeT (qcp CP (qag CP n) n E) (qag CP n) n E (.yield l) args s:=rfl
theorem qtY {n nt nl:Nat}{E:qaR}{ly p1 p2:Nat}{fr:Tr zA}{lo:Tr (Nat×List zA)}{a b:CC}{pre HT HT2:qaR}{s s2:ASt}{F0:FL}{L:LL}{v1 v2:zA}{x:EX}
  (hrf:(qcJ a&&qcJ b)=true)(hcs:(qit (qfa b (qfa a 0)) a).cs=false)(h12:p1≠p2)(hp1:p1<nt)(hp2:p2<nt)
  (h:s.heap=pre++(ly,.loop 0 none fr lo [p1,p2] a b)::HT)(hp:∀v∈pre,v.1≠ly)(hF:∀t u,qas F0 t=some u->fr.get qaq t=u)(hh:∀t,t<nt->fr.has t=true)(hL:∀i p,qas L i=some p->lo.get (0,[]) i=p/\lo.has i=true)(ha:[v1,v2].all qbF=true)
  (hrun:qvm nt nl (qag CP n E) n a b (fun s=>{s with heap:=pre++(ly,.loop 1 none fr lo [p1,p2] a b)::HT}) ((p1,v1)::(p2,v2)::F0) L s=some (qlM x,s2))(h2:s2.heap=pre++(ly,.loop 1 none fr lo [p1,p2] a b)::HT2):
  clv (qag CP (n+1) E) (.yield ly) [v1,v2] s=some (bl (qjU x),{s2 with heap:=pre++(ly,.loop (qow x) (qeS x) fr lo [p1,p2] a b)::HT2}):=by
 rw[qhd,ql2]
 have hbe:Nat.beq ly ly=true:=qaE rfl
 have g1:∀(o:zH) (H:qaR),qas (pre++(ly,o)::H) ly=some o:=fun o H=>by
  rw[qdT hp]
  simp only[qas,hbe,cond_true]
 have g2:∀(o o':zH) (H:qaR),qaK (pre++(ly,o)::H) ly o'=some (pre++(ly,o')::H):=fun o o' H=>by
  rw[qdD hp]
  simp only[qaK,hbe,cond_true,zab]
 let f1:=(fr.set p1 v1).set p2 v2
 have hf1:qdM fr [p1,p2] [v1,v2]=some f1:=rfl
 have ag:AG nt ((p1,v1)::(p2,v2)::F0) L [] ⟨f1,lo,[],some ly,s⟩:=by
  refine⟨fun t u hu=>?_,fun i p hi=>hL i p hi,fun d l hd=>(by cases hd),fun t ht=>?_⟩
  ·show((fr.set p1 v1).set p2 v2).get qaq t=u
   rw[Tr.get_set _ _ _ _ _ (by rw[Tr.has_set];exact hh p2 hp2),Tr.get_set _ _ _ _ _ (hh p1 hp1)]
   rw[qap] at hu
   split at hu
   ·rename_i e
    subst e
    rw[if_neg (fun e=>h12 e.symm),if_pos rfl]
    simpa using hu
   ·rename_i e
    rw[qap] at hu
    split at hu
    ·rename_i e2
     rw[if_pos e2]
     simpa using hu
    ·rename_i e2
     rw[if_neg e2,if_neg e]
     exact hF t u hu
  ·show((fr.set p1 v1).set p2 v2).has t=true
   rw[Tr.has_set,Tr.has_set]
   exact hh t ht
 obtain⟨ca,cb,k1,k2,k3,k4⟩:=qvn hrf hcs ag hrun
 have k2':ca.s=s:=k2
 simp only[qeT,h,g1,ha,cond_true,hf1,zaa,k1,k2',g2]
 have k3':qbs (qag CP n E) n b {ca with s:={s with heap:=pre++(ly,.loop 1 none fr lo [p1,p2] a b)::HT}}=some (x,cb):=k3
 simp only[k3',zaa,endRound,k4,h2,g1,g2,zab]
theorem qrT (l:Tr (Nat×List zA))(i:Nat):(l.map fun _=>((0,[]):Nat×List zA)).get (0,[]) i=(0,[]):=Tr.get_map (fun _=>((0,[]):Nat×List zA)) (0,[]) l i
theorem qtZ (f:Tr zA)(i:Nat):(f.map far).get qaq i=far (f.get qaq i):=Tr.get_map far qaq f i
theorem qxI {n n' nt:Nat}{E:qaR}{l4 l7:Nat}{ps:List Nat}{a b:CC}{F:FL}{L:LL}{s:ASt}{kn kx kr:ASt->Res}{r:zA}(hn:1<=n)
  (hrun:∀(fr:Tr zA) (lo:Tr (Nat×List zA)),(∀t u,qas F t=some u→fr.get qaq t=far u)→(∀t,t<nt→fr.has t=true)→(∀i,lo.get (0,[]) i=(0,[]))→(∀i p,qas L i=some p→lo.has i=true)→
   ∃x s' pre' HT s2 r',cl (qag CP n E) 94 [.yield s.next,.ptr l4 0,.ptr l7 0] (qal s (.loop 0 none fr lo ps a b))=some (.tuple [],s')/\s'.heap=pre'++(s.next,.loop (qow x) (qeS x) fr lo ps a b)::HT/\(∀v∈pre',v.1≠s.next)/\qaD r'=r/\(match x with
    |.normal=>kn {s' with heap:=pre'++(s.next,.gone)::HT}=some (r',s2)
    |.exit i=>i=exB b/\kx {s' with heap:=pre'++(s.next,.gone)::HT}=some (r',s2)
    |.ret=>kr {s' with heap:=pre'++(s.next,.gone)::HT}=some (r',s2))):
  qpg (qag CP n E) n' nt (.func 94 [] [.ptr l4 0,.ptr l7 0]) ps a b F L s kn kx kr r:=by
 intro c f hF hL hh hv hs hrd
 obtain⟨x,s',pre',HT,s2,r',h1,h2,h3,her,h4⟩:=hrun (c.f.map far) (c.l.map fun _=>(0,[])) (fun t u hu=>by rw[qtZ,hF t u hu]) (fun t ht=>by rw[Tr.has_map];exact hh t ht) (qrT c.l) (fun i p hi=>by rw[Tr.has_map];exact hL i p hi)
 refine⟨x,{s' with heap:=pre'++(s.next,.gone)::HT},s2,r',?_,her,h4⟩
 have hbe:Nat.beq s.next s.next=true:=qaE rfl
 have g1:qas (pre'++(s.next,zH.loop (qow x) (qeS x) (c.f.map far) (c.l.map fun _=>(0,[])) ps a b)::HT) s.next=some (.loop (qow x) (qeS x) (c.f.map far) (c.l.map fun _=>(0,[])) ps a b):=by
  rw[qdT h3]
  simp only[qas,hbe,cond_true]
 have g2:qaK (pre'++(s.next,zH.loop (qow x) (qeS x) (c.f.map far) (c.l.map fun _=>(0,[])) ps a b)::HT) s.next .gone=some (pre'++(s.next,.gone)::HT):=by
  rw[qdD h3]
  simp only[qaK,hbe,cond_true,zab]
 have hil:qjV c=true:=by unfold qjV;rw[hrd]
 have hcv:(qag CP n E).callv (.func 94 [] [.ptr l4 0,.ptr l7 0]) [.yield s.next] (qal s (.loop 0 none (c.f.map far) (c.l.map fun _=>(0,[])) ps a b))=some (.tuple [],s'):=by
  have:=qh0 CP hn E 94 [] [.ptr l4 0,.ptr l7 0] [.yield s.next] (qal s (.loop 0 none (c.f.map far) (c.l.map fun _=>(0,[])) ps a b))
  rw[qhd] at this
  rw[this]
  exact h1
 have hst:Nat.beq (qow x) 1=false:=by cases x<;>rfl
 unfold qbs
 rw[hil,hv,hs]
 simp only[quQ,zat,cond_true,hcv,zaa,h2,g1,hst,cond_false,g2]
 cases x<;>rfl
theorem qne (d:Nat):∀(F:FL),(∀p∈F,p.1<2^d-1)->∃fr:Tr zA,(∀t u,qas F t=some u->fr.get qaq t=u)/\∀t,t<2^d-1->fr.has t=true
 |[],_=>⟨Tr.mk qaq d,fun t u h=>(by cases h),fun t ht=>Tr.has_mk _ _ _ (by omega)⟩
 |(k,v)::F,h=>by
  obtain⟨fr,h1,h2⟩:=qne d F fun p hp=>h p (zax _ hp)
  refine⟨fr.set k v,fun t u hu=>?_,fun t ht=>by rw[Tr.has_set];exact h2 t ht⟩
  rw[Tr.get_set _ _ _ _ _ (h2 k (h (k,v) (zau ..)))]
  rw[qap] at hu
  split at hu
  ·rename_i e
   rw[if_pos e]
   simpa using hu
  ·rename_i e
   rw[if_neg e]
   exact h1 t u hu
theorem qv0 {e:Env}{n nt:Nat}{v:zA}{ps:List Nat}{a b:CC}{F:FL}{L:LL}{s:ASt}{kn kx kr:ASt->Res}{r:zA}(d dl:Nat)(hF:∀p∈F,p.1<2^d-1)(hn:nt<=2^d-1)(hL:∀p∈L,p.1<2^dl-1)(h:qpg e n nt v ps a b F L s kn kx kr r):
  rfK e n nt v ps a b F L s kn kx kr=some (r,s):=by
 have hex:∃r,qpg e n nt v ps a b F L s kn kx kr r:=⟨r,h⟩
 unfold rfK
 rw[dif_pos hex]
 have h2:=hex.choose_spec
 obtain⟨fr,f1,f2⟩:=qne d F hF
 have hlo:∀i p,qas L i=some p->(Tr.mk ((0,[]):Nat×List zA) dl).has i=true:=fun i p hi=>Tr.has_mk _ _ _ (by
  have:=hL (i,p) (by
   have:∀(L:LL),qas L i=some p->(i,p)∈L:=by
    intro L
    induction L with
    |nil=>intro h;cases h
    |cons q L ih=>
     intro h
     obtain⟨k,w⟩:=q
     rw[qap] at h
     split at h
     ·rename_i e
      subst e
      simp only[zac] at h
      subst h
      exact zau ..
     ·exact zax _ (ih h)
   exact this L hi)
  simp only at this
  omega)
 obtain⟨x,s',s2,r',k1,k2,k3⟩:=h ⟨fr,Tr.mk (0,[]) dl,[],none,s⟩ (.c v) f1 hlo (fun t ht=>f2 t (by omega)) rfl rfl rfl
 obtain⟨y,t',t2,q',m1,m2,m3⟩:=h2 ⟨fr,Tr.mk (0,[]) dl,[],none,s⟩ (.c v) f1 hlo (fun t ht=>f2 t (by omega)) rfl rfl rfl
 rw[k1] at m1
 simp only[zac,zaq] at m1
 obtain⟨rfl,hs⟩:=m1
 injection hs with _ _ _ _ hs
 subst hs
 have hq:r'=q':=by
  cases x with
  |normal=>simp only at k3 m3;rw[k3] at m3;simp only[zac,zaq] at m3;exact m3.1
  |exit i=>simp only at k3 m3;have:=k3.2;rw[m3.2] at this;simp only[zac,zaq] at this;exact this.1.symm
  |ret=>simp only at k3 m3;rw[k3] at m3;simp only[zac,zaq] at m3;exact m3.1
 rw[<-k2,<-m2,hq]
end Go.AI.Tryz
namespace Go.AI
theorem qh7 {s:ASt}{pre H:qaR}{l o:Nat}{zs cs new:List zA}(h:s.heap=pre++(l,.cells zs)::H)(hp:∀v∈pre,v.1≠l)(ha:cs.all qaY=true)(ho:over zs o cs=some new):stH s (.ptr l o) cs=some {s with heap:=pre++(l,.cells new)::H}:=by
 unfold stH qbP
 have hbe:Nat.beq l l=true:=qaE rfl
 simp only[h,qdT hp,qdD hp,qas,qaK,hbe,cond_true,ha,ho,zaa,zab]
theorem qcu {E:qaR}{s:ASt}{pre H:qaR}{l:Nat}{cs:List zA}(h:s.heap=pre++(l,.cells cs)::H)(hp:∀v∈pre,v.1≠l):qar E s l=some cs:=by
 unfold qar
 have hbe:Nat.beq l l=true:=qaE rfl
 simp only[h,qdT hp,qas,hbe,cond_true]
end Go.AI
namespace Go.AI.Tryz
theorem qsK (a:Ar)(t:Tm)(h1:a.ids.length<=100000):PC CP 65 [a.v,t.v] (vw (qaB a) t).v:=by
 refine PC.of2 (cf:=cf65) (np:=2) (args':=[a.v,t.v]) (by kernel_rfl) (by kernel_rfl) rfl (by simp only[zap,qak];rfl) (by simp only[zam,qai];rfl) (fun _=>rfl) ((Ev.ge (a.ids.length+1)).mono fun n hn E s=>?_)
 let sz:List Int:=a.ids.map fun t=>t.res.n
 let f:Nat->List zP:=fun j=>qaQ qcZ (sz.take j)
 have hszl:sz.length=a.ids.length:=by simp only[sz,zaZ]
 let fin:zA:=.agg [u8 t.k,i64 t.n,i64 t.m,i64 t.i,kv t.ks,qb0 f s.ntok a.ids.length,i64 (.ofNat a.ids.length)]
 suffices ∃s',s65 (qag CP n E) n a.v t.v s=some (fin,s') by
  obtain⟨s',e⟩:=this
  refine⟨fin,s',(s65_eq _ _ _ _ _).trans e,?_⟩
  have he1:qcj (qb0 f s.ntok a.ids.length)=.p (.sl a.ids.length (f a.ids.length)):=qcV f _ _ rfl
  have he2:(vw (qaB a) t).sz=sz:=by
   simp only[vw,qaB,sz,List.map_map]
   rfl
  have he3:f a.ids.length=qaQ qcZ sz:=by
   show qaQ qcZ (sz.take a.ids.length)=_
   rw[<-hszl,List.take_length]
  show zA.agg [_,_,_,_,_,qcj (qb0 f s.ntok a.ids.length),_]=zA.agg [_,_,_,_,_,iv (vw (qaB a) t).sz,_]
  rw[he1,he2,he3,iv,hszl]
  rfl
 have hav:zA.cells (some 4) a.v=some [.p (.sl a.ids.length (qaQ Ty.cells a.ids)),bl a.root.cell,i64 a.root.n,bl a.jumps]:=rfl
 have hbd:bd [u8 0,i64 0,i64 0,i64 0,.sl 0 [] .full,.sl 0 [] .full,i64 0] [(0,some 5,.c t.v),(6,none,.c (i64 (.ofNat a.ids.length)))]=some (.agg [u8 t.k,i64 t.n,i64 t.m,i64 t.i,kv t.ks,.sl 0 [] .full,i64 (.ofNat a.ids.length)]):=by rw[Tm.v_eq];rfl
 unfold s65
 simp only[hav,hbd,qbW,qps,qpt,qah,qaU,zaa,qbq]
 unfold s65_0
 generalize hF:(fun(h21:zA->Nat->List zA->List zA->List zA->List zA->List zA->ASt->Res) (x13:zA) (g14:Nat) (c15 c16 c17 c18 c19:List zA) (s20:ASt)=>_)=F
 have key:∀k (j g:Nat) (c:List zA),j<=a.ids.length->a.ids.length-j<k->∃s',lp (fun _ _ _ _ _ _ _ _=>none) F k (i64 (.ofNat j)) g [.p (.sl a.ids.length (qaQ Ty.cells a.ids)),bl a.root.cell,i64 a.root.n,bl a.jumps] t.c [u8 0,i64 0,i64 0,i64 0,.sl 0 [] .full,.sl 0 [] .full,i64 0]
   [u8 t.k,i64 t.n,i64 t.m,i64 t.i,kv t.ks,qb0 f s.ntok j,i64 (.ofNat a.ids.length)] c (qc6 s 1 j)=some (fin,s'):=by
  intro k
  induction k with
  |zero=>intro j g c _ h;omega
  |succ k ih=>
   intro j g c hj hk
   rcases zbi j a.ids.length with h|h
   ·have hkj:a.ids[j]? =some a.ids[j]:=zah h
    have hld:∀s,ldH (qag CP n E) s (.elem (qaQ Ty.cells a.ids) (j*3)) (some 3)=some a.ids[j].v:=fun s=>qdr (c:=Ty.cells) (sz:=3) (fun _=>rfl) _ s hkj
    have hsj:j<sz.length:=by rw[hszl];exact h
    have hszj:sz[j]=a.ids[j].res.n:=by simp only[sz,List.getElem_map]
    have hap:=qeV (qag CP n E) (sz:=1) (b:=8) (f:=f) (y:=.sl 1 (qcZ a.ids[j].res.n) .full) s j rfl rfl (by omega) (by
     have:=qbQ (c:=qcZ) hsj
     rw[hszj] at this
     exact this)
    have hms:ms 1 [.int .i64 0] [(0,none,.c (i64 a.ids[j].res.n))]=some (.sl 1 (qcZ a.ids[j].res.n) .full):=rfl
    have hcv:zA.cells none (qb0 f s.ntok (j+1))=some [qb0 f s.ntok (j+1)]:=rfl
    have hl5:∀a b c d e f g:zA,ldL [a,b,c,d,e,f,g] 5 none=some f:=fun _ _ _ _ _ _ _=>rfl
    have ho5:∀a b c d e f g h:zA,over [a,b,c,d,e,f,g] 5 [h]=some [a,b,c,d,e,h,g]:=fun _ _ _ _ _ _ _ _=>rfl
    obtain⟨s',e⟩:=ih (j+1) (g+1) [.p (.sl a.ids[j].ps.length (qaQ Bs.cells a.ids[j].ps)),bl a.ids[j].res.cell,i64 a.ids[j].res.n] (by omega) (by omega)
    refine⟨s',?_⟩
    rw[qa6]
    generalize lp _ F k=L at e⊢
    subst hF
    simp only[of_lt.2 h,qbR h,hld,Ty.v_cells3,qlO,za8,hl5,qtp,hms,hap,hcv,ho5,qaN (show j<9223372036854775807 by omega),qad,qao,qaw,decide_true,qaa,cond_true,zab,zaa,qab,cnd]
    exact e
   ·have:j=a.ids.length:=by omega
    subst this
    have h3:¬(Int.ofNat a.ids.length<Int.ofNat a.ids.length):=fun h=>zaX _ (of_lt.1 h)
    refine⟨qc6 s 1 a.ids.length,?_⟩
    rw[qa6]
    generalize lp _ F k=L
    subst hF
    simp only[h3,qvq,qps,qpt,qad,qao,qaw,decide_false,qaa,cond_false,zab,zaa,cnd]
    rfl
 obtain⟨s',e⟩:=key n 0 0 [] (zaY _) (by omega)
 exact⟨s',e⟩
theorem qnf (a:Ar)(t:Tm)(oa:a.Ok)(ok:t.Ok)(h1:a.ids.length<=100000)(hs:t.size<=100000):PC CP 40 [a.v,t.v] (.tuple [(vw (qaB a) t).v,i64 (qbN a t)]):=by
 refine PC.of2 (cf:=cf40) (np:=2) (args':=[a.v,t.v]) (by kernel_rfl) (by kernel_rfl) rfl (by simp only[zap,qak];rfl) (by simp only[zam,qai];rfl) (fun _=>rfl) (((qsK a t h1).and (qtC a t oa ok h1 hs)).mono fun n ⟨h,h'⟩ E s=>⟨.tuple [(vw (qaB a) t).v,i64 (qbN a t)],s,(s40_eq _ _ _ _ _).trans ?_,rfl⟩)
 have hav:zA.cells (some 4) a.v=some [.p (.sl a.ids.length (qaQ Ty.cells a.ids)),bl a.root.cell,i64 a.root.n,bl a.jumps]:=rfl
 have hal:ldL [.p (.sl a.ids.length (qaQ Ty.cells a.ids)),bl a.root.cell,i64 a.root.n,bl a.jumps] 0 (some 4)=some a.v:=rfl
 unfold s40
 simp only[hav,hal,h,h',qah,qaU,qaH,qch,qju,zaa,qab]
theorem every_u:UC 42 (fun k:Int=>[u8 k]) (fun _ _ _=>True) (fun _=>bl true):=
 UC.of (cf:=cf42) (np:=1) (by kernel_rfl) (by kernel_rfl) (fun _=>rfl) (fun _=>rfl) (fun _=>rfl) (fun _=>Stab.pure _) (fun _ _=>rfl) (Ev.of fun n p E s _=>⟨bl true,s,(s42_eq _ _ _ _).trans rfl,rfl⟩)
theorem ql3 {a:Ar}{t:Tm}(h:qbN a t=0)(ok:t.Ok)(h1:a.ids.length<=100000)(hs:t.size<=100000):Nd (qaB a) t:=by
 unfold qbN at h
 split at h
 ·rename_i h0;exact absurd h h0
 ·rename_i h0
  have h0:qbX a=0:=by simpa using h0
  split at h
  ·omega
  ·split at h
   ·rename_i hA
    refine⟨.inr ⟨a.root,hA⟩,⟨by simp only[qaB,zaZ];omega,by simp only[qaB];omega,by simp only[qaB];omega⟩,ok,fun e he=>?_⟩
    simp only[qaB,List.mem_map] at he
    obtain⟨ty,hty,rfl⟩:=he
    have:qcr ty=true:=by
     unfold qbX at h0
     split at h0
     ·omega
     ·split at h0
      ·omega
      ·rename_i h2
       simp only[zaS,zaU] at h2
       have:=List.any_eq_false.1 h2.2 ty hty
       simpa using this
    simp only[qcr,zag,qbg,decide_eq_true_eq] at this
    exact this.1
   ·omega
end Go.AI.Tryz
namespace Go.AI.Tryz
abbrev Rw:=Int×Int
def rwC (p:Rw):List zP:=[.int .u8 p.1,.int .i64 p.2]
def qbT (tok:Nat):List Rw->zA
 |[]=> .sl 0 [] .full
 |a::r=> .sl (r.length+1) (qaQ rwC (a::r)) (.own tok)
abbrev qiE (l:List Rw):zA:=.p (.sl l.length (qaQ rwC l))
def ql4 (tk:Nat×List (Nat×Nat×Nat))(tok:Nat)(y:List Rw):Prop:=y≠[]->qas tk.2 tok=some (y.length,2)
theorem qt0 (e:Env){y:List Rw}{tok:Nat}{s:ASt}(h:ql4 (qnd s) tok y)(p:Rw)(hb:y.length<=100000000):
  ∃tok' ts nt',ap e 2 16 (qbT tok y) (.sl 1 (rwC p) .full) s=some (qbT tok' (y++[p]),{s with ntok:=nt',toks:=ts})/\ql4 (nt',ts) tok' (y++[p]):=by
 cases y with
 |nil=>
  refine⟨s.ntok,_,_,qfU e (sz:=2) (b:=16) (new:=rwC p) s rfl rfl (by omega),fun _=>?_⟩
  show qas ((s.ntok,1,2)::s.toks) s.ntok=_
  rw[qap,if_pos rfl]
  rfl
 |cons a r=>
  have ht:=h (by simp)
  obtain⟨ts,e1,e2⟩:=qm7 e (sz:=2) (b:=16) (n:=r.length+1) (t:=tok) (cs:=qaQ rwC (a::r)) (new:=rwC p) (y:=.sl 1 (rwC p) .full) ht rfl rfl (by simp only[zar] at hb;omega)
  refine⟨tok,ts,s.ntok,?_,fun _=>?_⟩
  ·have hl:qbT tok (a::r++[p])=.sl (r.length+1+1) (qaQ rwC (a::r)++rwC p) (.own tok):=by
    show zA.sl ((r++[p]).length+1) (qaQ rwC (a::(r++[p]))) (.own tok)=_
    have:=qfB rwC (a::r) p
    rw[zaF] at this
    rw[this,zaw]
    rfl
   rw[hl]
   exact e1
  ·show qas ts tok=_
   rw[e2,if_pos rfl]
   simp only[zaw,zar,zaB]
theorem qv1 (tok:Nat)(y:List Rw):qcj (qbT tok y)=qiE y:=by cases y<;>rfl
theorem qhz (tok:Nat)(y:List Rw):zA.cells none (qbT tok y)=some [qbT tok y]:=by cases y<;>rfl
theorem qjC (tok:Nat)(y:List Rw):[qbT tok y].all qaY=true:=by cases y<;>rfl
theorem qng (tok:Nat)(y:List Rw):ln false (qbT tok y)=some (i64 (.ofNat y.length)):=by cases y<;>rfl
def qcx:Int->Bool:=fun _=>true
def qeC (a:Ar)(t:Tm):List Of:=qcO qcx 0 (qbi t (qaB a))
theorem qfh {E H:qaR}{l m:Nat}{o:zH}(h:m≠l):qdC E ((m,o)::H) l=qdC E H l:=by
 unfold qdC
 exact qbx rfl h
theorem qk1 {E H:qaR}{l:Nat}{cs:List zA}:qdC E ((l,.cells cs)::H) l=some cs:=qaS (s:=⟨0,(l,.cells cs)::H,0,[]⟩) rfl
end Go.AI.Tryz
namespace Go.AI
mutual
def Tm.put1 (u:Tm):Nat->Tm->Tm
 |0,_=>u
 |j+1,.mk k n m i ks=> .mk k n m i (Tm.putL u j ks)
def Tm.putL (u:Tm):Nat->List Tm->List Tm
 |_,[]=>[]
 |j,k::r=>if j<k.size then Tm.put1 u j k::r else k::Tm.putL u (j-k.size) r
end
theorem Tm.put1_succ (u t:Tm)(j:Nat):Tm.put1 u (j+1) t=t.with (Tm.putL u j t.ks):=by
 cases t;rw[Tm.put1];rfl
def qdU (a:Int)(u:Tm):Int->Tm->Int->Int×(Tm×Bool):=fun c t _=>(qbb .i64 (c+1),if qbb .i64 (qbb .i64 (c+1)-1)=a then(u,false) else(t,true))
theorem qnh {a:Int}{u:Tm}{c:Nat}(h:c<=1000000000)(t:Tm)(l:Int):qdU a u (.ofNat c) t l=(.ofNat (c+1),if Int.ofNat c=a then(u,false) else(t,true)):=by
 have h1:qbb .i64 (Int.ofNat c+1)=.ofNat (c+1):=qbu (by simp only[zaf];omega) (by simp only[zaf];omega)
 have h2:qbb .i64 (Int.ofNat (c+1)-1)=.ofNat c:=by
  have:Int.ofNat (c+1)-1=Int.ofNat c:=by simp only[zaf];omega
  rw[this]
  exact qbu (by simp only[zaf];omega) (by simp only[zaf];omega)
 unfold qdU
 rw[h1,h2]
def PutR (a c:Nat)(u:Tm)(sz:Nat){α:Type}(t:α)(put:Nat->α)(r:Int×α):Prop:=
 if c<=a/\a<c+sz then∃c':Nat,r=(.ofNat c',put (a-c))/\a<c'/\c'<=c+sz else r=(.ofNat (c+sz),t)
theorem PutR.inn {a c:Nat}{u:Tm}{sz:Nat}{α:Type}{t:α}{put:Nat->α}{r:Int×α}(h:c<=a/\a<c+sz):PutR a c u sz t put r↔∃c':Nat,r=(.ofNat c',put (a-c))/\a<c'/\c'<=c+sz:=by
 unfold PutR;rw[if_pos h]
theorem PutR.out {a c:Nat}{u:Tm}{sz:Nat}{α:Type}{t:α}{put:Nat->α}{r:Int×α}(h:¬(c<=a/\a<c+sz)):PutR a c u sz t put r↔r=(.ofNat (c+sz),t):=by
 unfold PutR;rw[if_neg h]
theorem Tm.with_ks (t:Tm):t.with t.ks=t:=by cases t;rfl
theorem qni (a:Nat)(u:Tm):∀(d c:Nat) (t:Tm) (l:Int),t.size<=d->c+t.size<=1000000000->PutR a c u t.size t (fun j=>Tm.put1 u j t) (qc9 (qdU (.ofNat a) u) d (.ofNat c) t l)
 |0,c,t,l,h,_=>by have:=Tm.size_pos t;omega
 |d+1,c,t,l,h,hc=>by
  have hk:∀(lab:Bool) (ks:List Tm) (j c:Nat),(∀u∈ks,u.size<=d)->c+Tm.sizeL ks<=1000000000->PutR a c u (Tm.sizeL ks) ks (fun j=>Tm.putL u j ks) (qfJ (qc9 (qdU (.ofNat a) u) d) lab l j (.ofNat c) ks):=by
   intro lab ks
   induction ks with
   |nil=>intro j c _ _;rw[PutR.out (by simp only[Tm.sizeL];omega)];rfl
   |cons w r ih=>
    intro j c hu hc
    simp only[Tm.sizeL] at hc
    have h1:=qni a u d c w (if lab&&decide (j=0) then l+1 else l) (hu w (zau ..)) (by omega)
    have ih:=fun c' hc'=>ih (j+1) c' (fun v hv=>hu v (zax _ hv)) hc'
    simp only[qfJ,Tm.sizeL,Tm.putL]
    by_cases hin:c<=a/\a<c+w.size
    ·rw[PutR.inn hin] at h1
     obtain⟨c',e,h3,h4⟩:=h1
     have ih:=ih c' (by omega)
     rw[PutR.out (by omega)] at ih
     rw[e]
     simp only
     rw[ih,PutR.inn (by omega)]
     refine⟨c'+Tm.sizeL r,?_,by omega,by omega⟩
     rw[if_pos (by omega)]
    ·rw[PutR.out hin] at h1
     rw[h1]
     simp only
     have ih:=ih (c+w.size) (by omega)
     by_cases hin2:c+w.size<=a/\a<c+w.size+Tm.sizeL r
     ·rw[PutR.inn hin2] at ih
      obtain⟨c',e,h3,h4⟩:=ih
      rw[e,PutR.inn (by omega)]
      refine⟨c',?_,h3,by omega⟩
      rw[if_neg (by omega)]
      have:a-c-w.size=a-(c+w.size):=by omega
      rw[this]
     ·rw[PutR.out hin2] at ih
      rw[ih,PutR.out (by omega)]
      have:c+w.size+Tm.sizeL r=c+(w.size+Tm.sizeL r):=by omega
      rw[this]
  have hsz:=Tm.size_ks t
  have hp:=Tm.size_pos t
  unfold qc9
  rw[qnh (by omega)]
  by_cases ha:c=a
  ·subst ha
   rw[if_pos rfl]
   rw[PutR.inn (by omega)]
   simp only[zai,if_false]
   refine⟨c+1,?_,by omega,by omega⟩
   rw[Nat.sub_self,Tm.put1]
  ·rw[if_neg (fun h=>ha (Int.ofNat.inj h))]
   simp only[if_true]
   have:=hk (decide (t.k=11)) t.ks 0 (c+1) (fun v hv=>by have:=Tm.sizeL_mem hv;omega) (by omega)
   by_cases hin:c+1<=a/\a<c+1+Tm.sizeL t.ks
   ·rw[PutR.inn hin] at this
    obtain⟨c',e,h3,h4⟩:=this
    rw[e,PutR.inn (by omega)]
    refine⟨c',?_,h3,by omega⟩
    simp only
    have:a-c=(a-(c+1))+1:=by omega
    rw[this,Tm.put1_succ]
   ·rw[PutR.out hin] at this
    rw[this,PutR.out (by omega)]
    simp only
    have:c+1+Tm.sizeL t.ks=c+t.size:=by omega
    rw[this,Tm.with_ks]
end Go.AI
namespace Go.AI.Tryz
def RP (a:Int)(u:Tm)(q:Nat×qaR)(c:Int)(_:qaR)(s:ASt):Prop:=s.heap=(q.1+2,.cells [i64 c])::(q.1+1,.cells u.c)::(q.1,.cells [i64 a])::q.2
end Go.AI.Tryz
namespace Go.AI.Tryz
def Lk (x:Sc)(t:Tm)(y:Sc)(t':Tm):Prop:=szF x t=szF y t'/\∀b,qdy szF x t b=qdy szF y t' b
def LkK (sx sy:Nat->Sc):Nat->List Tm->List Tm->Prop
 |_,[],[]=>True
 |j,u::r,w::q=>Lk (sx j) u (sy j) w/\LkK sx sy (j+1) r q
 |_,_,_=>False
theorem qnj {x:Sc}{t:Tm}(h:t.k≠16)(h2:t.k≠17)(b:Bs):qdy szF x t b=(!b.cell&&is2 (szF x t) b.n):=by
 unfold qdy
 rw[if_neg h,if_neg h2]
 cases b.cell<;>simp
theorem qp7 {x:Sc}(i:Int)(b:Bs):qdy szF x (.cel i) b=(b.cell&&(match x.get i with|some e=>e.ty.res.cell&&decide (e.ty.res.n=b.n)|none=>false)):=by
 unfold qdy
 rw[qc7 (.cel i)]
 cases b.cell with
 |true=>simp only[if_true,zay,Tm.k_mk,Tm.i_mk];rfl
 |false=>
  simp only[zai,if_false,qeY,zav]
theorem ql5 {x:Sc}(u w:Tm)(b:Bs):qdy szF x (.obj u w) b=(b.cell&&(is2 (szF x u) b.n&&is2 (szF (x.with ⟨⟨[],⟨false,b.n⟩⟩,true⟩) w) 1)):=by
 unfold qdy
 rw[qc7 (.obj u w)]
 cases b.cell with
 |true=>simp only[if_true,zay,Tm.k_mk,Tm.ks_mk,zaj,if_false]
 |false=>
  simp only[zai,if_false,qdQ,zav]
theorem Lk.of_sz {x y:Sc}{t t':Tm}(h:szF x t=szF y t')(h1:t.k≠16/\t.k≠17)(h2:t'.k≠16/\t'.k≠17):Lk x t y t':=by
 refine⟨h,fun b=>?_⟩
 rw[qnj h1.1 h1.2,qnj h2.1 h2.2,h]
theorem quO {x:Sc}{t:Tm}(h:(szF x t).2=true):t.k≠16/\t.k≠17:=by
 cases qdj h with
 |cel i=>rw[qeY] at h;cases h
 |obj u w=>rw[qdQ] at h;cases h
 |_=>exact⟨by simp[Tm.k],by simp[Tm.k]⟩
theorem Lk.of_ok {x y:Sc}{t t':Tm}(h:szF x t=szF y t')(h1:(szF x t).2=true):Lk x t y t':=Lk.of_sz h (quO h1) (quO (by rw[<-h];exact h1))
theorem LkK.args {x y:Sc}:∀{ks ks':List Tm} (j:Nat) {ps:List Bs},LkK (fun _=>x) (fun _=>y) j ks ks'->qbv (qdy szF x) ks ps=qbv (qdy szF y) ks' ps
 |[],[],_,ps,_=>by cases ps<;>rfl
 |u::r,w::q,j,ps,h=>by
  unfold LkK at h
  cases ps with
  |nil=>rfl
  |cons b ps=>
   simp only[qbv,h.1.2 b]
   rw[LkK.args (j+1) h.2]
 |[],_::_,_,_,h=>h.elim
 |_::_,[],_,_,h=>h.elim
theorem Lk.node {x y:Sc}{t t':Tm}(hs:Sh t)(hs':Sh t')(hk:t'.k=t.k)(hm:t'.m=t.m)(hn:t.k≠12->t'.n=t.n)(h12:t.k=12->qbh t.n x.size=qbh t'.n y.size)(hi:x.get t.i=y.get t'.i)
  (h18:t.k=18->decide (x.top<t.i)=decide (y.top<t'.i))(hks:LkK (x.kid t) (y.kid t') 0 t.ks t'.ks):Lk x t y t':=by
 cases hs<;>cases hs'<;>first|(exfalso;revert hk;simp only[Tm.k_mk,zaj,imp_self];done)|skip
 case num.num n m n' m'=>
  have e1:n'=n:=hn (by simp[Tm.k])
  have e2:m'=m:=hm
  subst e1 e2
  exact Lk.of_sz (by rw[qdB,qdB]) (by simp[Tm.k]) (by simp[Tm.k])
 case use.use i ks i' ks'=>
  have e:x.get i=y.get i':=hi
  have hks:LkK (fun _=>x) (fun _=>y) 0 ks ks':=hks
  refine Lk.of_sz ?_ (by simp[Tm.k]) (by simp[Tm.k])
  rw[qgl,qgl,e,hks.args]
 case get.get i i'=>
  have e:x.get i=y.get i':=hi
  refine Lk.of_sz ?_ (by simp[Tm.k]) (by simp[Tm.k])
  rw[qhr,qhr,e]
 case put.put i u i' u'=>
  have e:x.get i=y.get i':=hi
  have h1:szF x u=szF y u':=hks.1.1
  refine Lk.of_sz ?_ (by simp[Tm.k]) (by simp[Tm.k])
  rw[qeW,qeW,e,h1]
 case op.op n m u w n' m' u' w'=>
  have e1:n'=n:=hn (by simp[Tm.k])
  have e2:m'=m:=hm
  subst e1 e2
  have h1:szF x u=szF y u':=hks.1.1
  have h2:szF x w=szF y w':=hks.2.1.1
  refine Lk.of_sz ?_ (by simp[Tm.k]) (by simp[Tm.k])
  rw[qeQ,qeQ,h1,h2]
 case az.az n u n' u'=>
  have e1:n'=n:=hn (by simp[Tm.k])
  subst e1
  have h1:szF x u=szF y u':=hks.1.1
  refine Lk.of_sz ?_ (by simp[Tm.k]) (by simp[Tm.k])
  rw[qeR,qeR,h1]
 case seq.seq u w u' w'=>
  have h1:szF x u=szF y u':=hks.1.1
  have h2:szF x w=szF y w':=hks.2.1.1
  refine Lk.of_sz ?_ (by simp[Tm.k]) (by simp[Tm.k])
  rw[qb2,qb2,h1,h2]
 case ite.ite c u w c' u' w'=>
  have h0:szF x c=szF y c':=hks.1.1
  have h1:szF x u=szF y u':=hks.2.1.1
  have h2:szF x w=szF y w':=hks.2.2.1.1
  refine Lk.of_sz ?_ (by simp[Tm.k]) (by simp[Tm.k])
  rw[qcA,qcA,h0,h1,h2]
 case whl.whl u w u' w'=>
  have h1:szF x u=szF y u':=hks.1.1
  have h2:szF x w=szF y w':=hks.2.1.1
  refine Lk.of_sz ?_ (by simp[Tm.k]) (by simp[Tm.k])
  rw[qfD,qfD,h1,h2]
 case new.new n m u n' m' u'=>
  have e1:n'=n:=hn (by simp[Tm.k])
  have e2:m'=m:=hm
  subst e1 e2
  have h1:szF (x.with ⟨⟨[],⟨true,n'⟩⟩,false⟩) u=szF (y.with ⟨⟨[],⟨true,n'⟩⟩,false⟩) u':=hks.1.1
  refine Lk.of_sz ?_ (by simp[Tm.k]) (by simp[Tm.k])
  rw[qeX,qeX,h1]
 case lbl.lbl u w u' w'=>
  have h1:szF {x with size:=x.size+1} u=szF {y with size:=y.size+1} u':=hks.1.1
  have h2:szF x w=szF y w':=hks.2.1.1
  refine Lk.of_sz ?_ (by simp[Tm.k]) (by simp[Tm.k])
  rw[qew,qew,h1,h2]
 case jmp.jmp n n'=>
  refine Lk.of_sz ?_ (by simp[Tm.k]) (by simp[Tm.k])
  rw[qiA,qiA]
  exact congrArg _ (h12 rfl)
 case cho.cho u w u' w'=>
  have h1:szF x u=szF y u':=hks.1.1
  have h2:szF x w=szF y w':=hks.2.1.1
  refine Lk.of_sz ?_ (by simp[Tm.k]) (by simp[Tm.k])
  rw[qex,qex,h1,h2]
 case hang.hang=>exact Lk.of_sz (by rw[qht,qht]) (by simp[Tm.k]) (by simp[Tm.k])
 case val.val i i'=>
  have e:x.get i=y.get i':=hi
  refine Lk.of_sz ?_ (by simp[Tm.k]) (by simp[Tm.k])
  rw[qhs,qhs,e]
 case cel.cel i i'=>
  have e:x.get i=y.get i':=hi
  refine⟨by rw[qeY,qeY],fun b=>?_⟩
  rw[qp7,qp7,e]
 case obj.obj u w u' w'=>
  have h1:szF x u=szF y u':=hks.1.1
  have h2:szF (x.with ⟨⟨[],⟨false,(szF x u).1⟩⟩,true⟩) w=szF (y.with ⟨⟨[],⟨false,(szF y u').1⟩⟩,true⟩) w':=hks.2.1.1
  refine⟨by rw[qdQ,qdQ],fun b=>?_⟩
  rw[ql5,ql5]
  by_cases hb:(szF x u).1=b.n
  ·rw[←h1,hb] at h2
   rw[h1,h2]
  ·have:is2 (szF x u) b.n=false:=by simp only[is2,hb,decide_false,zaT]
   rw[<-h1,this]
   simp only[zav]
 case ntc.ntc n i u n' i' u'=>
  have e1:n'=n:=hn (by simp[Tm.k])
  subst e1
  have e:x.get i=y.get i':=hi
  have h1:szF x u=szF y u':=hks.1.1
  have h3:decide (x.top<i)=decide (y.top<i'):=h18 rfl
  refine Lk.of_sz ?_ (by simp[Tm.k]) (by simp[Tm.k])
  rw[qey,qey,h1,e,h3]
theorem qp8 {x:Sc}{t:Tm}:Lk x t x t:=⟨rfl,fun _=>rfl⟩
theorem qnk {sx:Nat->Sc}:∀(j:Nat) (l:List Tm),LkK sx sx j l l
 |_,[]=>trivial
 |j,_::r=>⟨qp8,qnk (j+1) r⟩
end Go.AI.Tryz
namespace Go.AI.Tryz
theorem ql6 {t:Tm}(h:Sh t){ks:List Tm}(hl:ks.length=t.ks.length):Sh (t.with ks):=by
 have h1:=qc7 h
 refine qlZ ?_
 rw[<-h1]
 obtain⟨k,n,m,i,l⟩:=t
 simp only[Tm.ks] at hl
 show(match qct formL k with|none=>false|some f=>(((f.n||decide (n=0))&&(f.m||decide (m=0)))&&(f.i||decide (i=0)))&&(decide (f.k<0)||decide (f.k=Int.ofNat ks.length)))=_
 simp only[hl]
 rfl
theorem qt1 {t:Tm}(h:t.Ok){ks:List Tm}(hl:ks.length=t.ks.length)(hk:∀u∈ks,u.Ok):(t.with ks).Ok:=by
 cases h with
 |mk h1 h2 h3 h4 h5 h6=>exact .mk h1 h2 h3 h4 (by simp only[Tm.ks] at hl;omega) hk
theorem qrU {x:Sc}{t:Tm}{ks:List Tm}(h:t.k=17->(szF x (t.ks.headD .z)).1=(szF x (ks.headD .z)).1)(j:Nat):x.kid (t.with ks) j=x.kid t j:=by
 obtain⟨k,n,m,i,l⟩:=t
 simp only[Sc.kid,Tm.with,Tm.k,Tm.n,Tm.ks] at h⊢
 by_cases hk:k=17
 ·rw[h hk]
  rfl
 ·have:¬(k=17∧j=1):=fun h=>hk h.1
  simp only[this,if_false]
  rfl
theorem LkK.hd {sx sy:Nat->Sc}{l m:List Tm}(h:LkK sx sy 0 l m):(szF (sx 0) (l.headD .z)).1=(szF (sy 0) (m.headD .z)).1\/l=[]/\m=[]:=by
 match l,m,h with
 |[],[],_=>exact .inr ⟨rfl,rfl⟩
 |u::r,w::q,h=>exact .inl (by simp only[zbh];rw[h.1.1])
theorem qfi {x:Sc}{t:Tm}(h:t.k=17):x.kid t 0=x:=by
 unfold Sc.kid
 rw[if_neg (by omega),if_neg (by simp),if_neg (by omega)]
theorem Lk.with {x:Sc}{t:Tm}{ks:List Tm}(h:Sh t)(hl:ks.length=t.ks.length)(hk:LkK (x.kid t) (x.kid t) 0 t.ks ks):Lk x t x (t.with ks):=by
 have e:∀j,x.kid (t.with ks) j=x.kid t j:=qrU fun h17=>by
  rcases hk.hd with h|⟨h1,h2⟩
  ·rw[qfi h17] at h;exact h
  ·rw[h1,h2]
 refine Lk.node h (ql6 h hl) ?_ ?_ ?_ ?_ ?_ ?_ ?_
 ·cases t;rfl
 ·cases t;rfl
 ·cases t;intro _;rfl
 ·cases t;intro _;rfl
 ·cases t;rfl
 ·cases t;intro _;rfl
 ·rw[show x.kid (t.with ks)=x.kid t from funext e]
  cases t;exact hk
structure PutOk (x:Sc)(t:Tm)(p:Sc×Tm)(u r:Tm):Prop where
 tr:Lk x t x r
 size:r.size+p.2.size=t.size+u.size
 ok:r.Ok
 sh:Sh r
theorem qnl (u:Tm):∀(ks:List Tm) (j:Nat),(Tm.putL u j ks).length=ks.length
 |[],j=>by cases j<;>rfl
 |k::r,j=>by
  unfold Tm.putL
  split
  ·rfl
  ·simp only[zar,qnl u r]
theorem qkg {u:Tm}(hu:u.Ok){p:Sc×Tm}(hp:Lk p.1 p.2 p.1 u)(hsu:Sh u):∀(d:Nat) (t:Tm) (x:Sc) (j:Nat),t.size<=d->(qbi t x)[j]? =some p->Nd x t->PutOk x t p u (Tm.put1 u j t)
 |0,t,_,_,h,_,_=>by have:=Tm.size_pos t;omega
 |d+1,t,x,0,hd,hj,hn=>by
  rw[qc1] at hj
  simp only[zas,zac] at hj
  subst hj
  unfold Tm.put1
  exact⟨hp,by show u.size+t.size=_;omega,hu,hsu⟩
 |d+1,t,x,j+1,hd,hj,hn=>by
  rw[qc1] at hj
  simp only[zaO] at hj
  have hK:∀(r:List Tm) (sc:Nat->Sc) (m j:Nat),(∀w∈r,w.size<=d/\w.Ok)->(∀i w,r[i]? =some w->Nd (sc (m+i)) w)->(qbe sc m r)[j]? =some p->
    LkK sc sc m r (Tm.putL u j r)/\Tm.sizeL (Tm.putL u j r)+p.2.size=Tm.sizeL r+u.size/\∀w∈Tm.putL u j r,w.Ok:=by
   intro r
   induction r with
   |nil=>intro sc m j _ _ h;simp[qbe] at h
   |cons k r ih=>
    intro sc m j hsz hnd h
    simp only[qbe] at h
    unfold Tm.putL
    by_cases hlt:j<k.size
    ·rw[if_pos hlt]
     rw[zaP (by rw[qbO];exact hlt)] at h
     obtain⟨h1,h2,h3,h4⟩:=qkg hu hp hsu d k (sc m) j (hsz k (zau ..)).1 h (hnd 0 k rfl)
     refine⟨⟨h1,qnk _ _⟩,by simp only[Tm.sizeL];omega,fun w hw=>?_⟩
     rcases zaA.1 hw with rfl|hw
     ·exact h3
     ·exact(hsz w (zax _ hw)).2
    ·rw[if_neg hlt]
     rw[zaC (by rw[qbO];omega),qbO] at h
     obtain⟨h1,h2,h3⟩:=ih sc (m+1) (j-k.size) (fun w hw=>hsz w (zax _ hw)) (fun i w hi=>by
      have:=hnd (i+1) w (by simpa using hi)
      rw[show m+1+i=m+(i+1) by omega]
      exact this) h
     refine⟨⟨qp8,h1⟩,by simp only[Tm.sizeL];omega,fun w hw=>?_⟩
     rcases zaA.1 hw with rfl|hw
     ·exact(hsz w (zau ..)).2
     ·exact h3 w hw
  obtain⟨h1,h2,h3⟩:=hK t.ks (fun j=>x.kid t j) 0 j (fun w hw=>⟨by have:=qa5 hw;omega,hn.ok.kids w hw⟩) (fun i w hi=>by rw[zaK];exact hn.kid hi) hj
  rw[Tm.put1_succ]
  have hl:=qnl u t.ks j
  refine⟨Lk.with hn.sh hl h1,?_,qt1 hn.ok hl h3,ql6 hn.sh hl⟩
  have e1:=Tm.size_ks t
  have e2:=Tm.size_ks (t.with (Tm.putL u j t.ks))
  have e3:(t.with (Tm.putL u j t.ks)).ks=Tm.putL u j t.ks:=by cases t;rfl
  rw[e3] at e2
  omega
end Go.AI.Tryz
namespace Go.AI.Tryz
structure Good (x:Sc)(t u:Tm):Prop where
 sz:szF x t=szF x u
 ok2:(szF x t).2=true
 le:u.size<=t.size
 ok:u.Ok
theorem qiF {n m:Int}(h:0<=n/\n<=64)(hm:0<=m/\m<=64):(Tm.num n m).Ok:=.mk (by decide) (by omega) (by omega) (by decide) (by decide) (fun _ h=>by cases h)
theorem ok1_of {k n m i:Int}{a:Tm}(hk:0<=k/\k<256)(hn: -9223372036854775808<=n/\n<=9223372036854775807)(hm: -9223372036854775808<=m/\m<=9223372036854775807)(hi: -9223372036854775808<=i/\i<=9223372036854775807)(ha:a.Ok):(Tm.mk k n m i [a]).Ok:=
 .mk hk hn hm hi (by rw[qbM];simp only[zar,zaB];omega) fun u hu=>by
  simp only[zaA,zaD,or_false] at hu
  subst hu;exact ha
theorem ok2_of {k n m i:Int}{a b:Tm}(hk:0<=k/\k<256)(hn: -9223372036854775808<=n/\n<=9223372036854775807)(hm: -9223372036854775808<=m/\m<=9223372036854775807)(hi: -9223372036854775808<=i/\i<=9223372036854775807)(ha:a.Ok)(hb:b.Ok):(Tm.mk k n m i [a,b]).Ok:=
 .mk hk hn hm hi (by rw[qbM];simp only[zar,zaB];omega) fun u hu=>by
  simp only[zaA,zaD,or_false] at hu
  rcases hu with rfl|rfl
  ·exact ha
  ·exact hb
theorem ok3_of {k n m i:Int}{a b c:Tm}(hk:0<=k/\k<256)(hn: -9223372036854775808<=n/\n<=9223372036854775807)(hm: -9223372036854775808<=m/\m<=9223372036854775807)(hi: -9223372036854775808<=i/\i<=9223372036854775807)(ha:a.Ok)(hb:b.Ok)(hc:c.Ok):(Tm.mk k n m i [a,b,c]).Ok:=
 .mk hk hn hm hi (by rw[qbM];simp only[zar,zaB];omega) fun u hu=>by
  simp only[zaA,zaD,or_false] at hu
  rcases hu with rfl|rfl|rfl
  ·exact ha
  ·exact hb
  ·exact hc
theorem qcg {t:Tm}(h:t.Ok):(0<=t.k/\t.k<256)/\(-9223372036854775808<=t.n/\t.n<=9223372036854775807)/\(-9223372036854775808<=t.m/\t.m<=9223372036854775807)/\(-9223372036854775808<=t.i/\t.i<=9223372036854775807):=by cases h with|mk h1 h2 h3 h4 _ _=>exact⟨h1,h2,h3,h4⟩
theorem z64:(-9223372036854775808:Int)<=0/\(0:Int)<=9223372036854775807:=by decide
theorem o64:(-9223372036854775808:Int)<=1/\(1:Int)<=9223372036854775807:=by decide
theorem qjD {a m:Int}(ha:0<=a)(hm:1<=m):0<=a.tmod m/\a.tmod m<m:=by
 rw[Int.tmod_eq_emod_of_nonneg ha]
 exact⟨Int.emod_nonneg _ (by omega),Int.emod_lt_of_pos _ (by omega)⟩
theorem qv2 {n m a b:Int}(hm:1<=m)(ha:0<=a)(hb:0<=b)(hb2:b<m):(n=1\/n=2\/n=3->0<=qgF n m a b/\qgF n m a b<m)/\(n=4\/n=5->0<=qgF n m a b/\qgF n m a b<2):=by
 unfold qgF
 refine⟨fun h=>?_,fun h=>?_⟩
 ·rcases h with rfl|rfl|rfl
  ·exact qjD (by omega) hm
  ·exact qjD (by omega) hm
  ·exact qjD (Int.mul_nonneg ha hb) hm
 ·rcases h with rfl|rfl<;>simp only[zaj,if_false,if_true]
  ·cases decide (a=b)<;>simp
  ·cases decide (a<b)<;>simp
theorem qof {x:Sc}{t:Tm}{n m:Int}(h:(szF x t).2=true)(hn:qbJ t n m=true):t=.num n m:=by
 simp only[qbJ,zag,decide_eq_true_eq] at hn
 obtain⟨p,q,rfl⟩:=qeM (qdj h) hn.1
 rw[show p=n from hn.2.1,show q=m from hn.2.2]
theorem qt2 {x:Sc}{t r:Tm}(h:Nd x t)(e:opR x t=some r):Good x t r:=by
 by_cases hk:t.k=5
 ·have hsz:=h.gd.sz (by omega) (by omega)
  have hok:=h.ok
  have hko:=hok.kids
  have hf:=qcg hok
  have hsc:=h.sc
  cases h.sh with
  |op n m a b=>
   have e:(if qaI a&&qaI b then some (.num (qgF n m a.n b.n) (szF x (.op n m a b)).1) else none)=some r:=e
   split at e
   ·rename_i hab
    simp only[zag] at hab
    simp only[zac] at e
    subst e
    have hs2:=hsz
    rw[qeQ] at hs2⊢
    have hin:qbd m=true/\is2 (szF x a) m=true/\is2 (szF x b) m=true:=by
     split at hs2
     ·simpa only[zag] using hs2
     ·split at hs2
      ·simpa only[zag] using hs2
      ·cases hs2
    obtain⟨h1,h2,h3⟩:=hin
    rw[is2_iff] at h2 h3
    have ra:=qdR (x:=x) (by rw[h2]) hab.1
    have rb:=qdR (x:=x) (by rw[h3]) hab.2
    rw[h2] at ra;rw[h3] at rb
    rw[isSize_iff] at h1
    have hr:=qv2 (n:=n) (m:=m) (a:=a.n) (b:=b.n) h1.1 ra.1 rb.1 (by have:=rb.2.2.2;simp only at this;omega)
    by_cases hn:n=1\/n=2\/n=3
    ·have hr:=hr.1 hn
     rw[if_pos hn]
     refine⟨?_,hsz,?_,qiF (by omega) (by simp only;omega)⟩
     ·rw[qeQ,qdB,if_pos hn,h2,h3]
      simp only[is2,decide_true,za7,isSize_iff.2 h1,isBelow_iff.2 hr]
     ·simp only[Tm.size,Tm.sizeL];omega
    ·rw[if_neg hn] at hs2⊢
     by_cases hn2:n=4\/n=5
     ·have hr:=hr.2 hn2
      rw[if_pos hn2]
      refine⟨?_,hsz,?_,qiF (by omega) (by simp only;omega)⟩
      ·rw[qeQ,qdB,if_neg hn,if_pos hn2,h2,h3]
       simp only[is2,decide_true,za7,isSize_iff.2 h1,isBelow_iff.2 hr,isSize_iff.2 (show 1<=(2:Int)/\(2:Int)<=64 by decide)]
      ·simp only[Tm.size,Tm.sizeL];omega
     ·rw[if_neg hn2] at hs2;cases hs2
   ·cases e
  |_=>simp only[Tm.k_mk] at hk;omega
 ·unfold opR at e;rw[if_neg hk] at e;cases e
theorem qt3 {x:Sc}{t r:Tm}(h:Nd x t)(e:asR t=some r):Good x t r:=by
 by_cases hk:t.k=6
 ·have hsz:=h.gd.sz (by omega) (by omega)
  have hok:=h.ok
  have hko:=hok.kids
  have hf:=qcg hok
  have hsc:=h.sc
  cases h.sh with
  |az n u=>
   have e:(if qaI u then some (.num (u.n.tmod n) n) else none)=some r:=e
   split at e
   ·rename_i hu
    simp only[zac] at e
    subst e
    have hs2:=hsz
    rw[qeR,zag,isSize_iff] at hs2
    have ra:=qdR (x:=x) hs2.1 hu
    have hr:=qjD ra.1 hs2.2.1
    refine⟨?_,hsz,by simp only[Tm.size,Tm.sizeL];omega,qiF (by omega) (by omega)⟩
    rw[qeR,qdB,hs2.1,isSize_iff.2 hs2.2,isBelow_iff.2 hr]
   ·cases e
  |_=>simp only[Tm.k_mk] at hk;omega
 ·unfold asR at e;rw[if_neg hk] at e;cases e
theorem qp9 {x:Sc}{t r:Tm}(h:Nd x t)(e:qh1 x t=some r):Good x t r:=by
 by_cases hk:t.k=6
 ·have hsz:=h.gd.sz (by omega) (by omega)
  have hok:=h.ok
  have hko:=hok.kids
  have hf:=qcg hok
  have hsc:=h.sc
  cases h.sh with
  |az n u=>
   have e:(if !qaI u&&decide ((szF x u).1=n) then some u else none)=some r:=e
   split at e
   ·rename_i hu
    simp only[zag,decide_eq_true_eq] at hu
    simp only[zac] at e
    subst e
    have hs2:=hsz
    rw[qeR,zag] at hs2
    refine⟨?_,hsz,by simp only[Tm.size,Tm.sizeL];omega,hko _ (by simp[Tm.ks])⟩
    rw[qeR,hs2.1,hs2.2,<-hu.2,zat,<-hs2.1]
   ·cases e
  |_=>simp only[Tm.k_mk] at hk;omega
 ·unfold qh1 at e;rw[if_neg hk] at e;cases e
theorem qk2 {x:Sc}{t r:Tm}(h:Nd x t)(e:qc0 t=some r):Good x t r:=by
 by_cases hk:t.k=5
 ·have hsz:=h.gd.sz (by omega) (by omega)
  have hok:=h.ok
  have hko:=hok.kids
  have hf:=qcg hok
  have hsc:=h.sc
  cases h.sh with
  |op n m a b=>
   have e:(if(qjP n).isSome&&(!qaI a&&(qaI b&&decide (b.n=(qjP n).getD 0))) then some a else none)=some r:=e
   split at e
   ·rename_i hu
    simp only[zag] at hu
    simp only[zac] at e
    subst e
    have hs2:=hsz
    rw[qeQ] at hs2
    have hin:qbd m=true/\is2 (szF x a) m=true/\is2 (szF x b) m=true:=by
     split at hs2
     ·simpa only[zag] using hs2
     ·split at hs2
      ·simpa only[zag] using hs2
      ·cases hs2
    obtain⟨h1,h2,h3⟩:=hin
    have hn:n=1\/n=2\/n=3:=by
     by_cases n1:n=1
     ·exact .inl n1
     ·by_cases n2:n=2
      ·exact .inr (.inl n2)
      ·by_cases n3:n=3
       ·exact .inr (.inr n3)
       ·have:=hu.1
        simp only[qjP,n1,n2,n3,if_false,zaG] at this
        cases this
    refine⟨?_,hsz,by simp only[Tm.size,Tm.sizeL];omega,hko _ (by simp[Tm.ks])⟩
    rw[qeQ,if_pos hn,h1,h2,h3]
    rw[is2_iff] at h2
    rw[h2];rfl
   ·cases e
  |_=>simp only[Tm.k_mk] at hk;omega
 ·unfold qc0 at e;rw[if_neg hk] at e;cases e
theorem qqa {x:Sc}{t r:Tm}(h:Nd x t)(e:qh2 t=some r):Good x t r:=by
 by_cases hk:t.k=5
 ·have hsz:=h.gd.sz (by omega) (by omega)
  have hok:=h.ok
  have hko:=hok.kids
  have hf:=qcg hok
  have hsc:=h.sc
  cases h.sh with
  |op n m a b=>
   have e:(if(decide (n=1)||(decide (n=3)||decide (n=4)))&&(qaI a&&!qaI b) then some (.op n m b a) else none)=some r:=e
   split at e
   ·simp only[zac] at e
    subst e
    refine⟨?_,hsz,by simp only[Tm.size,Tm.sizeL];omega,ok2_of (by decide) hf.2.1 hf.2.2.1 z64 (hko _ (by simp[Tm.ks])) (hko _ (by simp[Tm.ks]))⟩
    rw[qeQ,qeQ,Bool.and_comm (is2 (szF x a) m)]
   ·cases e
  |_=>simp only[Tm.k_mk] at hk;omega
 ·unfold qh2 at e;rw[if_neg hk] at e;cases e
theorem qt4 {x:Sc}{t r:Tm}(h:Nd x t)(e:ifR t=some r):Good x t r:=by
 by_cases hk:t.k=8
 ·have hsz:=h.gd.sz (by omega) (by omega)
  have hok:=h.ok
  have hko:=hok.kids
  have hf:=qcg hok
  have hsc:=h.sc
  cases h.sh with
  |ite c a b=>
   have e:(if qaI c then some (if c.n=0 then b else a) else none)=some r:=e
   split at e
   ·simp only[zac] at e
    have hs2:=hsz
    rw[qcA,zag,zag,is2_iff] at hs2
    have ha:szF x (.ite c a b)=szF x a:=by
     rw[qcA,hs2.1.1,hs2.1.2,hs2.2]
     simp only[is2,decide_true,za7]
     rw[<-hs2.1.1]
    split at e
    ·subst e
     refine⟨?_,hsz,by simp only[Tm.size,Tm.sizeL];omega,hko _ (by simp[Tm.ks])⟩
     rw[ha,hs2.1.2,<-hs2.1.1]
    ·subst e
     exact⟨ha,hsz,by simp only[Tm.size,Tm.sizeL];omega,hko _ (by simp[Tm.ks])⟩
   ·cases e
  |_=>simp only[Tm.k_mk] at hk;omega
 ·unfold ifR at e;rw[if_neg hk] at e;cases e
theorem qqb {x:Sc}{t r:Tm}(h:Nd x t)(e:qh3 t=some r):Good x t r:=by
 by_cases hk:t.k=8
 ·have hsz:=h.gd.sz (by omega) (by omega)
  have hok:=h.ok
  have hko:=hok.kids
  have hf:=qcg hok
  have hsc:=h.sc
  cases h.sh with
  |ite c a b=>
   have e:(if !qaI c&&decide (a=b) then some (.seq (.az 1 c) a) else none)=some r:=e
   split at e
   ·rename_i hu
    simp only[zag,decide_eq_true_eq] at hu
    simp only[zac] at e
    subst e
    have hs2:=hsz
    rw[qcA,zag,zag,is2_iff] at hs2
    refine⟨?_,hsz,?_,ok2_of (by decide) z64 z64 z64 (ok1_of (by decide) o64 z64 z64 (hko _ (by simp[Tm.ks]))) (hko _ (by simp[Tm.ks]))⟩
    ·rw[qcA,qb2,qeR,hs2.1.1,hs2.1.2,hs2.2]
     simp only[is2,decide_true,za7,zay]
     rfl
    ·rw[←hu.2]
     simp only[Tm.size,Tm.sizeL]
     have:=Tm.size_pos a
     omega
   ·cases e
  |_=>simp only[Tm.k_mk] at hk;omega
 ·unfold qh3 at e;rw[if_neg hk] at e;cases e
theorem qqc {x:Sc}{t r:Tm}(h:Nd x t)(e:qh4 x t=some r):Good x t r:=by
 by_cases hk:t.k=8
 ·have hsz:=h.gd.sz (by omega) (by omega)
  have hok:=h.ok
  have hko:=hok.kids
  have hf:=qcg hok
  have hsc:=h.sc
  cases h.sh with
  |ite c a b=>
   have e:(if qbJ a 1 2&&(qbJ b 0 2&&(!qaI c&&decide ((szF x c).1=2))) then some c else none)=some r:=e
   split at e
   ·rename_i hu
    simp only[zag,decide_eq_true_eq] at hu
    simp only[zac] at e
    subst e
    have hs2:=hsz
    rw[qcA,zag,zag,is2_iff] at hs2
    have ha:=qof hs2.1.1 hu.1
    refine⟨?_,hsz,by simp only[Tm.size,Tm.sizeL];omega,hko _ (by simp[Tm.ks])⟩
    have h1:(szF x a).1=2:=by rw[ha,qdB]
    rw[qcA,hs2.1.1,hs2.1.2,hs2.2,h1,<-hu.2.2.2]
    simp only[is2,decide_true,za7]
    rw[<-hs2.2]
   ·cases e
  |_=>simp only[Tm.k_mk] at hk;omega
 ·unfold qh4 at e;rw[if_neg hk] at e;cases e
theorem qqd {x:Sc}{t r:Tm}(h:Nd x t)(e:qh5 t=some r):Good x t r:=by
 by_cases hk:t.k=7
 ·have hsz:=h.gd.sz (by omega) (by omega)
  have hok:=h.ok
  have hko:=hok.kids
  have hf:=qcg hok
  have hsc:=h.sc
  cases h.sh with
  |seq a b=>
   have e:(if qaI a then some b else none)=some r:=e
   split at e
   ·simp only[zac] at e
    subst e
    have hs2:=hsz
    rw[qb2,zag] at hs2
    refine⟨?_,hsz,by simp only[Tm.size,Tm.sizeL];omega,hko _ (by simp[Tm.ks])⟩
    rw[qb2,hs2.2,za7]
   ·cases e
  |_=>simp only[Tm.k_mk] at hk;omega
 ·unfold qh5 at e;rw[if_neg hk] at e;cases e
theorem qqe {x:Sc}{t r:Tm}(h:Nd x t)(e:qf1 x t=some r):Good x t r:=by
 by_cases hk:t.k=7
 ·have hsz:=h.gd.sz (by omega) (by omega)
  have hok:=h.ok
  have hko:=hok.kids
  have hf:=qcg hok
  have hsc:=h.sc
  cases h.sh with
  |seq a b=>
   have e:(if a.k=12\/a.k=14 then(if !decide (b=.num 0 (szF x (.seq a b)).1) then some (.seq a (.num 0 (szF x (.seq a b)).1)) else none) else none)=some r:=e
   split at e
   ·split at e
    ·simp only[zac] at e
     subst e
     have hr:=qfF _ (.seq a b) x (zan _) hsc hsz
     have hs2:=hsz
     rw[qb2,zag] at hs2
     refine⟨?_,hsz,?_,ok2_of (by decide) z64 z64 z64 (hko _ (by simp[Tm.ks])) (qiF (by omega) (by omega))⟩
     ·rw[qb2,qb2,qdB,hs2.1,hs2.2]
      rw[qb2] at hr
      rw[isSize_iff.2 hr,isBelow_iff.2 (by omega)];rfl
     ·simp only[Tm.size,Tm.sizeL]
      have:=Tm.size_pos b
      omega
    ·cases e
   ·cases e
  |_=>simp only[Tm.k_mk] at hk;omega
 ·unfold qf1 at e;rw[if_neg hk] at e;cases e
theorem qog {x:Sc}{t r:Tm}(h:Nd x t)(e:qe0 t=some r):Good x t r:=by
 by_cases hk:t.k=9
 ·have hsz:=h.gd.sz (by omega) (by omega)
  have hok:=h.ok
  have hko:=hok.kids
  have hf:=qcg hok
  have hsc:=h.sc
  cases h.sh with
  |whl c b=>
   have e:(if qaI c&&decide (c.n=0) then some (.num 0 1) else none)=some r:=e
   split at e
   ·simp only[zac] at e
    subst e
    have hs2:=hsz
    rw[qfD] at hs2
    simp only at hs2
    refine⟨?_,hsz,by simp only[Tm.size,Tm.sizeL];omega,qiF (by decide) (by decide)⟩
    rw[qfD,qdB,hs2];rfl
   ·cases e
  |_=>simp only[Tm.k_mk] at hk;omega
 ·unfold qe0 at e;rw[if_neg hk] at e;cases e
theorem qqf {x:Sc}{t r:Tm}(h:Nd x t)(e:qh6 t=some r):Good x t r:=by
 by_cases hk:t.k=11
 ·have hsz:=h.gd.sz (by omega) (by omega)
  have hok:=h.ok
  have hko:=hok.kids
  have hf:=qcg hok
  have hsc:=h.sc
  cases h.sh with
  |lbl u w=>
   have e:(if decide (u.k=12)&&decide (u.n=0) then some w else none)=some r:=e
   split at e
   ·simp only[zac] at e
    subst e
    have hs2:=hsz
    rw[qew,zag,is2_iff] at hs2
    refine⟨?_,hsz,by simp only[Tm.size,Tm.sizeL];omega,hko _ (by simp[Tm.ks])⟩
    rw[qew,hs2.1,hs2.2]
    simp only[is2,decide_true,za7]
   ·cases e
  |_=>simp only[Tm.k_mk] at hk;omega
 ·unfold qh6 at e;rw[if_neg hk] at e;cases e
theorem ql7 {x:Sc}{t r:Tm}(h:Nd x t)(e:qdI t=some r):Good x t r:=by
 by_cases hk:t.k=13
 ·have hsz:=h.gd.sz (by omega) (by omega)
  have hok:=h.ok
  have hko:=hok.kids
  have hf:=qcg hok
  have hsc:=h.sc
  cases h.sh with
  |cho a b=>
   have e:(if decide (a=b) then some a else none)=some r:=e
   split at e
   ·simp only[zac] at e
    subst e
    have hs2:=hsz
    rw[qex,zag,is2_iff] at hs2
    refine⟨?_,hsz,by simp only[Tm.size,Tm.sizeL];omega,hko _ (by simp[Tm.ks])⟩
    rw[qex,hs2.1,hs2.2]
    simp only[is2,decide_true,za7]
    rw[<-hs2.1]
   ·cases e
  |_=>simp only[Tm.k_mk] at hk;omega
 ·unfold qdI at e;rw[if_neg hk] at e;cases e
theorem qoh {x:Sc}{t r:Tm}(h:Nd x t)(e:qez t=some r):Good x t r:=by
 by_cases hk:t.k=13
 ·have hsz:=h.gd.sz (by omega) (by omega)
  have hok:=h.ok
  have hko:=hok.kids
  have hf:=qcg hok
  have hsc:=h.sc
  cases h.sh with
  |cho a b=>
   have e:(if a.k=14 then some b else if b.k=14 then some a else none)=some r:=e
   have hs2:=hsz
   rw[qex,zag,is2_iff] at hs2
   have ha:szF x (.cho a b)=szF x a:=by
    rw[qex,hs2.1,hs2.2]
    simp only[is2,decide_true,za7]
    rw[<-hs2.1]
   split at e
   ·simp only[zac] at e
    subst e
    refine⟨?_,hsz,by simp only[Tm.size,Tm.sizeL];omega,hko _ (by simp[Tm.ks])⟩
    rw[ha,hs2.2,<-hs2.1]
   ·split at e
    ·simp only[zac] at e
     subst e
     exact⟨ha,hsz,by simp only[Tm.size,Tm.sizeL];omega,hko _ (by simp[Tm.ks])⟩
    ·cases e
  |_=>simp only[Tm.k_mk] at hk;omega
 ·unfold qez at e;rw[if_neg hk] at e;cases e
theorem ql8 {x:Sc}{t r:Tm}(h:Nd x t)(e:qdJ x t=some r):Good x t r:=by
 by_cases hk:t.k=18
 ·have hsz:=h.gd.sz (by omega) (by omega)
  have hok:=h.ok
  have hko:=hok.kids
  have hf:=qcg hok
  have hsc:=h.sc
  cases h.sh with
  |ntc n i u=>
   have e:(if !u.any (qd8 x.top) 0 then some u else none)=some r:=e
   split at e
   ·simp only[zac] at e
    subst e
    have hs2:=hsz
    rw[qey,zag] at hs2
    refine⟨?_,hsz,by simp only[Tm.size,Tm.sizeL];omega,hko _ (by simp[Tm.ks])⟩
    rw[qey,hs2.2,za7]
   ·cases e
  |_=>simp only[Tm.k_mk] at hk;omega
 ·unfold qdJ at e;rw[if_neg hk] at e;cases e
theorem qrV {x:Sc}{t r:Tm}(h:Nd x t)(e:qob t=some r):Good x t r:=by
 by_cases hk:t.k=8
 ·have hsz:=h.gd.sz (by omega) (by omega)
  have hok:=h.ok
  have hko:=hok.kids
  have hf:=qcg hok
  have hsc:=h.sc
  cases h.sh with
  |ite c a b=>
   have e:(if c.k=8 then(match c.ks with|[p,q,r]=>if qbJ q 0 2&&qbJ r 1 2 then some (.ite p b a) else none|_=>none) else none)=some r:=e
   have hs2:=hsz
   rw[qcA,zag,zag,is2_iff] at hs2
   have oc:=hko c (by simp[Tm.ks])
   split at e
   ·rename_i hk
    cases qdj hs2.2 with
    |ite p q r'=>
     have e:(if qbJ q 0 2&&qbJ r' 1 2 then some (.ite p b a) else none)=some r:=e
     split at e
     ·simp only[zac] at e
      subst e
      have hc:=hs2.2
      rw[qcA,zag] at hc
      refine⟨?_,hsz,?_,ok3_of (by decide) z64 z64 z64 (oc.kids p (by simp[Tm.ks])) (hko b (by simp[Tm.ks])) (hko a (by simp[Tm.ks]))⟩
      ·have hA:szF x a=((szF x a).1,true):=by rw[←hs2.1.1]
       have hB:=hs2.1.2
       rw[qcA x (.ite p q r') a b,qcA x p b a,hs2.2,hc.2,hB,hA]
      ·simp only[Tm.size,Tm.sizeL];omega
     ·cases e
    |_=>simp only[Tm.k_mk] at hk;omega
   ·cases e
  |_=>simp only[Tm.k_mk] at hk;omega
 ·unfold qob at e;rw[if_neg hk] at e;cases e
theorem qqg {x:Sc}{t r:Tm}(h:Nd x t)(e:qf0 t=some r):Good x t r:=by
 by_cases hk:t.k=7
 ·have hsz:=h.gd.sz (by omega) (by omega)
  have hok:=h.ok
  have hko:=hok.kids
  have hf:=qcg hok
  have hsc:=h.sc
  cases h.sh with
  |seq a b=>
   have e:(if a.k=7 then(match a.ks with|[p,q]=>some (.seq p (.seq q b))|_=>none) else none)=some r:=e
   have hs2:=hsz
   rw[qb2,zag,is2_iff] at hs2
   have oa:=hko a (by simp[Tm.ks])
   split at e
   ·rename_i hk
    cases qdj (x:=x) (t:=a) (by rw[hs2.2]) with
    |seq p q=>
     have e:some (Tm.seq p (.seq q b))=some r:=e
     simp only[zac] at e
     subst e
     have hc:=hs2.2
     rw[qb2] at hc
     simp only[zaq,zag] at hc
     refine⟨?_,hsz,?_,ok2_of (by decide) z64 z64 z64 (oa.kids p (by simp[Tm.ks])) (ok2_of (by decide) z64 z64 z64 (oa.kids q (by simp[Tm.ks])) (hko b (by simp[Tm.ks])))⟩
     ·have hp:szF x p=(1,true):=is2_iff.1 (by simp only[is2,zag];exact hc.2.2)
      rw[qb2 x (.seq p q) b,hs2.2,qb2 x p,qb2 x q b,hp]
      simp only[is2,hc.1,hc.2.1,decide_true,za7]
     ·simp only[Tm.size,Tm.sizeL];omega
    |_=>simp only[Tm.k_mk] at hk;omega
   ·cases e
  |_=>simp only[Tm.k_mk] at hk;omega
 ·unfold qf0 at e;rw[if_neg hk] at e;cases e
theorem qoi {x:Sc}{t r:Tm}(h:Nd x t)(e:qdS x t=some r):Good x t r:=by
 by_cases hk:t.k=7
 ·have hsz:=h.gd.sz (by omega) (by omega)
  have hok:=h.ok
  have hko:=hok.kids
  have hf:=qcg hok
  have hsc:=h.sc
  cases h.sh with
  |seq p q=>
   have e:(if p.k=4 then(match p.ks with|[u]=>if decide (q.k=3)&&(decide (p.i=q.i)&&(decide (x.top<p.i)&&qaI u)) then some (.seq p u) else none|_=>none) else none)=some r:=e
   have hs2:=hsz
   rw[qb2,zag,is2_iff] at hs2
   have op:=hko p (by simp[Tm.ks])
   split at e
   ·rename_i hk
    cases qdj (x:=x) (t:=p) (by rw[hs2.2]) with
    |put i u=>
     have e:(if decide (q.k=3)&&(decide (i=q.i)&&(decide (x.top<i)&&qaI u)) then some (.seq (.put i u) u) else none)=some r:=e
     split at e
     ·rename_i hu
      simp only[zag,decide_eq_true_eq] at hu
      simp only[zac] at e
      subst e
      have hk:=hu.1
      cases qdj hs2.1 with
      |get j=>
       have hij:i=j:=hu.2.1
       subst hij
       have hc:=hs2.2
       rw[qeW] at hc
       simp only[zaq,zag,true_and] at hc
       have hcu:szF x u=(((x.get i).getD .none).ty.res.n,true):=is2_iff.1 (by simp only[is2,zag];exact hc.2)
       refine⟨?_,hsz,?_,ok2_of (by decide) z64 z64 z64 op (op.kids u (by simp[Tm.ks]))⟩
       ·rw[qb2,qb2,hs2.2,qhr,hcu,hc.1]
       ·simp only[Tm.size,Tm.sizeL]
        obtain⟨n,m,rfl⟩:=qeM (qdj (x:=x) (t:=u) (by rw[hcu])) hu.2.2.2
        simp only[Tm.size,Tm.sizeL];omega
      |_=>simp only[Tm.k_mk] at hk;omega
     ·cases e
    |_=>simp only[Tm.k_mk] at hk;omega
   ·cases e
  |_=>simp only[Tm.k_mk] at hk;omega
 ·unfold qdS at e;rw[if_neg hk] at e;cases e
end Go.AI.Tryz
namespace Go.AI.Tryz
abbrev up (x:Sc):Sc:={x with size:=x.size+1}
theorem qgH (g:Tm->Int->Tm)(lab:Bool)(l:Int):∀(ks:List Tm) (j:Nat),(Tm.chgK g lab l j ks).length=ks.length
 |[],_=>by simp only[Tm.chgK]
 |u::r,j=>by simp only[Tm.chgK,zar,qgH g lab l r]
theorem qnm (g:Tm->Int->Tm)(lab:Bool)(l:Int):∀(ks:List Tm) (j:Nat) (w:Tm),w∈Tm.chgK g lab l j ks->∃u∈ks,∃l',w=Tm.chg g u l'/\(l'=l\/l'=l+1)
 |[],_,w,h=>by simp only[Tm.chgK] at h;cases h
 |u::r,j,w,h=>by
  simp only[Tm.chgK] at h
  rcases zaA.1 h with rfl|h
  ·exact⟨u,zau ..,_,rfl,by split<;>simp⟩
  ·obtain⟨v,hv,l',e⟩:=qnm g lab l r (j+1) w h
   exact⟨v,zax _ hv,l',e⟩
theorem ql9 {is:Tm->Int->Bool}{lab:Bool}{l:Int}:∀{ks:List Tm} {j i:Nat} {w:Tm},Tm.anyK is lab l j ks=false->ks[i]? =some w->Tm.any is w (if lab&&decide (j+i=0) then l+1 else l)=false
 |[],_,i,w,_,h=>by simp at h
 |u::r,j,0,w,h,hi=>by
  simp only[Tm.anyK,zaU] at h
  simp only[zas,zac] at hi
  subst hi
  exact h.1
 |u::r,j,i+1,w,h,hi=>by
  simp only[Tm.anyK,zaU] at h
  have:=ql9 h.2 (show r[i]? =some w by simpa using hi)
  rw[show j+(i+1)=j+1+i by omega]
  exact this
theorem LkK.chg {g:Tm->Int->Tm}{lab:Bool}{l:Int}{sx sy:Nat->Sc}:∀(ks:List Tm) (j:Nat),(∀i w,ks[i]? =some w->Lk (sx (j+i)) w (sy (j+i)) (Tm.chg g w (if lab&&decide (j+i=0) then l+1 else l)))->LkK sx sy j ks (Tm.chgK g lab l j ks)
 |[],_,_=>by simp only[Tm.chgK];exact trivial
 |u::r,j,h=>by
  simp only[Tm.chgK]
  refine⟨h 0 u rfl,LkK.chg r (j+1) fun i w hi=>?_⟩
  have:=h (i+1) w (by simpa using hi)
  rw[show j+1+i=j+(i+1) by omega]
  exact this
theorem qnn (g:Tm->Int->Tm):∀(d:Nat) (t:Tm) (l:Int),t.size<=d->(Tm.chg g t l).size=t.size
 |0,t,_,h=>by have:=Tm.size_pos t;omega
 |d+1,t,l,h=>by
  have hk:∀(ks:List Tm) (lab:Bool) (j:Nat),(∀w∈ks,w.size<=d)->Tm.sizeL (Tm.chgK g lab l j ks)=Tm.sizeL ks:=by
   intro ks
   induction ks with
   |nil=>intro lab j _;simp only[Tm.chgK]
   |cons u r ih=>
    intro lab j hs
    simp only[Tm.chgK,Tm.sizeL]
    rw[qnn g d u _ (hs u (zau ..)),ih lab (j+1) fun w hw=>hs w (zax _ hw)]
  have h1:=Tm.size_ks t
  have h2:=Tm.size_ks (Tm.chg g t l)
  have h3:(Tm.chg g t l).ks=Tm.chgK g (decide (t.k=11)) l 0 t.ks:=by rw[Tm.chg_eq];rfl
  rw[h3,hk t.ks _ 0 fun w hw=>by have:=qa5 hw;omega] at h2
  omega
theorem qsL:∀(d:Nat) (t:Tm) (l:Int),t.size<=d->0<=l->t.Ok->(Tm.chg qcM t l).Ok
 |0,t,_,h,_,_=>by have:=Tm.size_pos t;omega
 |d+1,t,l,h,hl,hok=>by
  have hf:=qcg hok
  rw[Tm.chg_eq]
  have hn: -9223372036854775808<=(qcM t l).n/\(qcM t l).n<=9223372036854775807:=by
   unfold qcM
   split
   ·simp only[Tm.n_mk];omega
   ·exact hf.2.1
  have hm:(qcM t l).m=t.m:=by unfold qcM;split<;>rfl
  have hi:(qcM t l).i=t.i:=by unfold qcM;split<;>rfl
  refine .mk ?_ hn ?_ ?_ ?_ ?_
  ·rw[(qhv t l).2];exact hf.1
  ·rw[hm];exact hf.2.2.1
  ·rw[hi];exact hf.2.2.2
  ·rw[qgH];exact hok.len
  ·intro w hw
   obtain⟨u,hu,l',rfl,hl'⟩:=qnm _ _ _ _ _ _ hw
   exact qsL d u l' (by have:=qa5 hu;omega) (by omega) (hok.kids u hu)
theorem qv3 {x:Sc}{t t':Tm}(hk:t'.k=t.k)(hn:t.k≠12->t'.n=t.n)(h17:t.k=17->(szF (up x) (t.ks.headD .z)).1=(szF x (t'.ks.headD .z)).1)(j:Nat):(up x).kid t j=up (x.kid t' j)/\(x.kid t' j).size=if decide (t.k=11)&&decide (j=0) then x.size+1 else x.size:=by
 unfold Sc.kid
 rw[hk]
 by_cases h10:t.k=10
 ·have h11:¬t.k=11:=by omega
  rw[if_pos h10,if_pos h10,hn (by omega)]
  exact⟨rfl,by simp only[h11,decide_false,zav,zai,if_false];rfl⟩
 ·rw[if_neg h10,if_neg h10]
  by_cases h17':t.k=17/\j=1
  ·have h11:¬t.k=11:=by omega
   rw[if_pos h17',if_pos h17',h17 h17'.1]
   exact⟨rfl,by simp only[h11,decide_false,zav,zai,if_false];rfl⟩
  ·rw[if_neg h17',if_neg h17']
   by_cases h11:t.k=11/\j=0
   ·rw[if_pos h11,if_pos h11]
    exact⟨rfl,by simp only[h11.1,h11.2,decide_true,zat,if_true]⟩
   ·rw[if_neg h11,if_neg h11]
    refine⟨rfl,?_⟩
    rw[if_neg (by simpa using h11)]
theorem qsM:∀(d:Nat) (t:Tm) (x:Sc) (l:Int),t.size<=d->Nd (up x) t->t.any qcB l=false->0<=l->l<=x.size->Lk (up x) t x (Tm.chg qcM t l)
 |0,t,_,_,h,_,_,_,_=>by have:=Tm.size_pos t;omega
 |d+1,t,x,l,hd,hn,ha,hl,hlx=>by
  rw[Tm.any_eq,zaU] at ha
  have hk':(Tm.chg qcM t l).k=t.k:=by rw[Tm.chg_eq];exact(qhv t l).2
  have hks':(Tm.chg qcM t l).ks=Tm.chgK qcM (decide (t.k=11)) l 0 t.ks:=by rw[Tm.chg_eq];rfl
  have hn':t.k≠12->(Tm.chg qcM t l).n=t.n:=fun h=>by
   rw[Tm.chg_eq]
   show(qcM t l).n=_
   unfold qcM
   rw[if_neg (fun h'=>h h'.1)]
  have hm':(Tm.chg qcM t l).m=t.m:=by rw[Tm.chg_eq];show(qcM t l).m=_;unfold qcM;split<;>rfl
  have hi':(Tm.chg qcM t l).i=t.i:=by rw[Tm.chg_eq];show(qcM t l).i=_;unfold qcM;split<;>rfl
  have IH:∀i w,t.ks[i]? =some w->∀z,(up x).kid t i=up z->z.size=(if decide (t.k=11)&&decide (i=0) then x.size+1 else x.size)->Lk ((up x).kid t i) w z (Tm.chg qcM w (if decide (t.k=11)&&decide (i=0) then l+1 else l)):=by
   intro i w hi z hz hzs
   have h1:=hn.kid hi
   have h2:=ql9 ha.2 hi
   rw[zaK] at h2
   rw[hz] at h1⊢
   refine qsM d w z _ (by have:=qa5 (zaM hi);omega) h1 h2 ?_ ?_
   ·split<;>omega
   ·rw[hzs];split<;>omega
  have h17:t.k=17->(szF (up x) (t.ks.headD .z)).1=(szF x ((Tm.chg qcM t l).ks.headD .z)).1:=fun h17=>by
   rw[hks']
   have h11:¬t.k=11:=by omega
   cases hks:t.ks with
   |nil=>
    have:=hn.sh
    cases this<;>simp[Tm.k,Tm.ks] at h17 hks
   |cons u r=>
    have:=IH 0 u (by rw[hks];rfl) x (qfi h17) (by simp only[h11,decide_false,zav,zai,if_false])
    rw[qfi h17] at this
    simp only[h11,decide_false,zav,zai,if_false] at this
    simp only[Tm.chgK,zbh,h11,decide_false,zav,zai,if_false]
    rw[this.1]
  have hku:=fun j=>qv3 (x:=x) hk' hn' h17 j
  refine Lk.node hn.sh ?_ hk' hm' hn' ?_ ?_ ?_ ?_
  ·refine qlZ ?_
   have h1:=qc7 hn.sh
   by_cases h12:t.k=12
   ·cases hn.sh with
    |jmp n=>
     rw[Tm.chg_eq]
     have:(qcM (.jmp n) l).k=12/\(qcM (.jmp n) l).m=0/\(qcM (.jmp n) l).i=0:=by unfold qcM;split<;>exact⟨rfl,rfl,rfl⟩
     rw[this.1,this.2.1,this.2.2]
     exact qc7 (.jmp _)
    |_=>simp only[Tm.k_mk] at h12;omega
   ·have e:Tm.chg qcM t l=t.with (Tm.chgK qcM (decide (t.k=11)) l 0 t.ks):=by
     rw[Tm.chg_eq]
     unfold qcM
     rw[if_neg (fun h'=>h12 h'.1)]
     rfl
    rw[e]
    exact qc7 (ql6 hn.sh (qgH ..))
  ·intro h12
   have hle:qcB t l=false:=ha.1
   simp only[qcB,h12,decide_true,zay,decide_eq_false_iff_not] at hle
   rw[Tm.chg_eq]
   show qbh t.n (x.size+1)=qbh (qcM t l).n x.size
   unfold qcM
   rw[Bool.eq_iff_iff,isBelow_iff,isBelow_iff]
   split
   ·rename_i h;simp only[Tm.n_mk];omega
   ·rename_i h
    have:¬l<t.n:=fun h'=>h ⟨h12,h'⟩
    omega
  ·rw[hi'];rfl
  ·intro _;rw[hi']
  ·rw[hks']
   refine LkK.chg t.ks 0 fun i w hi=>?_
   rw[zaK]
   exact IH i w hi _ (hku i).1 (hku i).2
theorem qoj {x:Sc}{t r:Tm}(h:Nd x t)(e:qe1 t=some r):Good x t r:=by
 by_cases hk:t.k=11
 ·have hsz:=h.gd.sz (by omega) (by omega)
  have hok:=h.ok
  have hko:=hok.kids
  have hB:=h.b
  cases hs:h.sh with
  |lbl u w=>
   have e:(if !qkZ u then some (Tm.unl u) else none)=some r:=e
   split at e
   ·rename_i hu
    simp only[zac] at e
    subst e
    have hs2:=hsz
    rw[qew,zag,is2_iff] at hs2
    have hnu:Nd (up x) u:=h.kid (t:=.lbl u w) (u:=u) (j:=0) rfl
    have htr:=qsM u.size u x 0 (zan _) hnu (by simpa[qkZ] using hu) (by decide) hB.2.1
    refine⟨?_,hsz,?_,qsL u.size u 0 (zan _) (by decide) (hko u (by simp[Tm.ks]))⟩
    ·show _=szF x (Tm.chg qcM u 0)
     rw[qew,hs2.1,hs2.2,<-htr.1]
     simp only[is2,decide_true,za7]
     rw[<-hs2.1]
    ·show(Tm.chg qcM u 0).size≤_
     rw[qnn qcM u.size u 0 (zan _)]
     simp only[Tm.size,Tm.sizeL];omega
   ·cases e
  |_=>simp only[Tm.k_mk] at hk;omega
 ·unfold qe1 at e;rw[if_neg hk] at e;cases e
end Go.AI.Tryz
namespace Go.AI.Tryz
structure Rm (N id:Int)(X Y:Sc):Prop where
 ex:∃A B,X.ids=A++(⟨⟨[],⟨true,N⟩⟩,false⟩:Se)::B/\Y.ids=A++B/\id=Int.ofNat A.length+1
 top:Y.top=X.top
 size:Y.size=X.size
 lt:X.top<id
abbrev sh1 (id i:Int):Int:=if id<i then i-1 else i
theorem Rm.pos {N id:Int}{X Y:Sc}(h:Rm N id X Y):1<=id:=by
 obtain⟨A,B,_,_,e⟩:=h.ex
 have:(0:Int)<=Int.ofNat A.length:=Int.natCast_nonneg _
 omega
theorem Rm.get {N id:Int}{X Y:Sc}(h:Rm N id X Y){i:Int}(hi:i≠id):X.get i=Y.get (sh1 id i):=by
 obtain⟨A,B,hX,hY,he⟩:=h.ex
 have hp:=h.pos
 simp only[zaf] at he
 unfold Sc.get sh1
 by_cases h1:i<1
 ·rw[if_pos h1,if_neg (show¬id<i by omega),if_pos h1]
 ·by_cases h2:id<i
  ·rw[if_neg h1,if_pos h2,if_neg (by omega),hX,hY]
   have e1:(i-1).toNat=A.length+((i-1-1).toNat-A.length)+1:=by omega
   rw[zaC (by omega),zaC (by omega)]
   rw[show(i-1).toNat-A.length=((i-1-1).toNat-A.length)+1 by omega,zaO]
  ·rw[if_neg h1,if_neg h2,if_neg h1,hX,hY]
   rw[zaP (by omega),zaP (by omega)]
theorem Rm.at {N id:Int}{X Y:Sc}(h:Rm N id X Y):X.get id=some ⟨⟨[],⟨true,N⟩⟩,false⟩:=by
 obtain⟨A,B,hX,hY,he⟩:=h.ex
 simp only[zaf] at he
 unfold Sc.get
 rw[if_neg (by omega),hX,show(id-1).toNat=A.length by omega]
 rw[zaC (zan _),Nat.sub_self];rfl
theorem Rm.with {N id:Int}{X Y:Sc}(h:Rm N id X Y)(y:Se):Rm N id (X.with y) (Y.with y):=by
 obtain⟨A,B,hX,hY,he⟩:=h.ex
 exact⟨⟨A,B++[y],by simp only[Sc.with,hX,zaH,zaF],by simp only[Sc.with,hY,zaH],he⟩,h.top,h.size,h.lt⟩
theorem Rm.up {N id:Int}{X Y:Sc}(h:Rm N id X Y):Rm N id (up X) (up Y):=⟨h.ex,h.top,by show Y.size+1=X.size+1;rw[h.size],h.lt⟩
theorem Rm.kid {N id:Int}{X Y:Sc}(h:Rm N id X Y){t t':Tm}(hk:t'.k=t.k)(hn:t'.n=t.n)(h17:t.k=17->(szF X (t.ks.headD .z)).1=(szF Y (t'.ks.headD .z)).1)(j:Nat):Rm N id (X.kid t j) (Y.kid t' j):=by
 unfold Sc.kid
 rw[hk,hn]
 by_cases h10:t.k=10
 ·rw[if_pos h10,if_pos h10];exact h.with _
 ·rw[if_neg h10,if_neg h10]
  by_cases h17':t.k=17/\j=1
  ·rw[if_pos h17',if_pos h17',h17 h17'.1];exact h.with _
  ·rw[if_neg h17',if_neg h17']
   by_cases h11:t.k=11/\j=0
   ·rw[if_pos h11,if_pos h11];exact h.up
   ·rw[if_neg h11,if_neg h11];exact h
theorem qxJ {t:Tm}(h:Sh t){i:Int}{ks:List Tm}(hi:t.i=0->i=0)(hl:ks.length=t.ks.length):Sh (.mk t.k t.n t.m i ks):=by
 have h1:=qc7 h
 refine qlZ ?_
 obtain⟨k,n,m,i0,l⟩:=t
 simp only[Tm.ks,Tm.i] at hl hi
 have h1:(match qct formL k with|none=>false|some f=>(((f.n||decide (n=0))&&(f.m||decide (m=0)))&&(f.i||decide (i0=0)))&&(decide (f.k<0)||decide (f.k=Int.ofNat l.length)))=true:=h1
 show(match qct formL k with|none=>false|some f=>(((f.n||decide (n=0))&&(f.m||decide (m=0)))&&(f.i||decide (i=0)))&&(decide (f.k<0)||decide (f.k=Int.ofNat ks.length)))=true
 cases hf:qct formL k with
 |none=>rw[hf] at h1;cases h1
 |some f=>
  rw[hf] at h1
  simp only[zag,za5,decide_eq_true_eq,hl] at h1⊢
  refine⟨⟨h1.1.1,?_⟩,h1.2⟩
  rcases h1.1.2 with h|h
  ·exact .inl h
  ·exact .inr (hi h)
theorem qma (id:Int)(val:Tm):∀ks:List Tm,(woL id val ks).length=ks.length
 |[]=>rfl
 |u::r=>by simp only[woL,zar,qma id val r]
theorem qqh (id:Int)(val:Tm):∀(ks:List Tm) (w:Tm),w∈woL id val ks->∃u∈ks,w=woF id val u
 |[],w,h=>by simp only[woL] at h;cases h
 |u::r,w,h=>by
  simp only[woL] at h
  rcases zaA.1 h with rfl|h
  ·exact⟨u,zau ..,rfl⟩
  ·obtain⟨v,hv,e⟩:=qqh id val r w h
   exact⟨v,zax _ hv,e⟩
theorem LkK.wo {id:Int}{val:Tm}{sx sy:Nat->Sc}:∀(ks:List Tm) (j:Nat),(∀i w,ks[i]? =some w->Lk (sx (j+i)) w (sy (j+i)) (woF id val w))->LkK sx sy j ks (woL id val ks)
 |[],_,_=>by simp only[woL];exact trivial
 |u::r,j,h=>by
  simp only[woL]
  refine⟨h 0 u rfl,LkK.wo r (j+1) fun i w hi=>?_⟩
  have:=h (i+1) w (by simpa using hi)
  rw[show j+1+i=j+(i+1) by omega]
  exact this
structure WoOk (X Y:Sc)(t r:Tm):Prop where
 tr:Lk X t Y r
 size:r.size<=t.size
 ok:r.Ok
theorem qv4 {N id:Int}{val:Tm}(hv:∀Y,szF Y val=(N,true))(hvs:val.size=1)(hvo:val.Ok):∀(d:Nat) (t:Tm) (X Y:Sc) (l:Int),t.size<=d->Rm N id X Y->Nd X t->t.any (isH id) l=false->WoOk X Y t (woF id val t)
 |0,t,_,_,_,h,_,_,_=>by have:=Tm.size_pos t;omega
 |d+1,t,X,Y,l,hd,hr,hn,ha=>by
  rw[Tm.any_eq,zaU] at ha
  have hp:=hr.pos
  have hsz:=hn.gd.sz
  have IH:∀i w,t.ks[i]? =some w->∀Z,Rm N id (X.kid t i) Z->WoOk (X.kid t i) Z w (woF id val w):=fun i w hi Z hz=>
   qv4 hv hvs hvo d w _ Z _ (by have:=qa5 (zaM hi);omega) hz (hn.kid hi) (ql9 ha.2 hi)
  have hf:=qcg hn.ok
  rw[qtT]
  by_cases hi:t.i=id
  ·rw[if_pos hi]
   have hko:=hn.ok.kids
   cases hs:hn.sh with
   |get i=>
    have hi:i=id:=hi
    subst hi
    rw[if_pos (show(Tm.get i).k=3 from rfl)]
    have h1:szF X (.get i)=(N,true):=by rw[qhr,hr.at];rfl
    exact⟨Lk.of_ok (by rw[h1,hv]) (by rw[h1]),by rw[hvs];exact Tm.size_pos _,hvo⟩
   |put i u=>
    have hi:i=id:=hi
    subst hi
    have hz:=hsz (by simp[Tm.k]) (by simp[Tm.k])
    obtain⟨h1,h2,h3⟩:=IH 0 u rfl Y hr
    have h1:szF X u=szF Y (woF i val u):=h1.1
    have hz2:=hz
    rw[qeW,hr.at,zag] at hz2
    have hu:szF X u=(N,true):=is2_iff.1 hz2.2
    rw[if_neg (by simp[Tm.k]),if_pos (show(Tm.put i u).k=4 from rfl)]
    show WoOk X Y (.put i u) (.az 1 (woF i val u))
    refine⟨Lk.of_ok ?_ hz,by simp only[Tm.size,Tm.sizeL];omega,ok1_of (by decide) o64 z64 z64 h3⟩
    rw[qeW,hr.at,qeR,<-h1,hu]
    simp only[is2,zaE,decide_true,za7,zay,Option.any_some]
    rfl
   |ntc n i u=>
    have hi:i=id:=hi
    subst hi
    have hz:=hsz (by simp[Tm.k]) (by simp[Tm.k])
    obtain⟨h1,h2,h3⟩:=IH 0 u rfl Y hr
    have h1:szF X u=szF Y (woF i val u):=h1.1
    have hz2:=hz
    rw[qey,zag] at hz2
    rw[if_neg (by simp[Tm.k]),if_neg (by simp[Tm.k]),if_pos (show(Tm.ntc n i u).k=18 from rfl)]
    show WoOk X Y (.ntc n i u) (woF i val u)
    refine⟨Lk.of_ok ?_ hz,by simp only[Tm.size,Tm.sizeL];omega,h3⟩
    rw[qey,<-h1,hz2.2,za7]
   |use i ks=>
    have hi:i=id:=hi
    subst hi
    have hz:=hsz (by simp[Tm.k]) (by simp[Tm.k])
    rw[qgl,hr.at] at hz
    simp only[zaE,zak,zav,zaT] at hz
    cases hz
   |val i=>
    have hi:i=id:=hi
    subst hi
    have hz:=hsz (by simp[Tm.k]) (by simp[Tm.k])
    rw[qhs,hr.at] at hz
    simp only[zaE,zaT] at hz
    cases hz
   |cel i=>
    have hi:i=id:=hi
    subst hi
    have:=ha.1
    simp only[isH,Tm.i_mk,Tm.k_mk,decide_true,zat] at this
    cases this
   |_=>exfalso;simp only[Tm.i_mk] at hi;omega
  ·rw[if_neg hi]
   have h17:t.k=17->(szF X (t.ks.headD .z)).1=(szF Y ((woL id val t.ks).headD .z)).1:=fun h17=>by
    cases hks:t.ks with
    |nil=>
     have:=hn.sh
     cases this<;>simp[Tm.k,Tm.ks] at h17 hks
    |cons u r=>
     have:=(IH 0 u (by rw[hks];rfl) Y (by rw[qfi h17];exact hr)).tr
     rw[qfi h17] at this
     simp only[woL,zbh]
     rw[this.1]
   have hkid:∀j,Rm N id (X.kid t j) (Y.kid (.mk t.k t.n t.m (sh1 id t.i) (woL id val t.ks)) j):=fun j=>hr.kid (t:=t) (t':=.mk t.k t.n t.m (sh1 id t.i) (woL id val t.ks)) rfl rfl h17 j
   have hl:(woL id val t.ks).length=t.ks.length:=qma ..
   refine⟨?_,?_,?_⟩
   ·refine Lk.node hn.sh (qxJ hn.sh (fun h0=>?_) hl) rfl rfl (fun _=>rfl) (fun h12=>?_) (hr.get hi) (fun _=>?_) (LkK.wo t.ks 0 fun i w hi=>?_)
    ·rw[h0,if_neg (by omega)]
    ·rw[hr.size];rfl
    ·have:=hr.lt
     show decide (X.top<t.i)=decide (Y.top<sh1 id t.i)
     rw[hr.top,decide_eq_decide]
     unfold sh1
     split<;>omega
    ·rw[zaK]
     exact(IH i w hi _ (hkid i)).tr
   ·have hK:∀(ks:List Tm),(∀w∈ks,(woF id val w).size≤w.size)→Tm.sizeL (woL id val ks)≤Tm.sizeL ks:=by
     intro ks
     induction ks with
     |nil=>intro _;exact zan _
     |cons u r ih=>
      intro h
      have h1:=h u (zau ..)
      have h2:=ih fun w hw=>h w (zax _ hw)
      simp only[woL,Tm.sizeL];omega
    have h1:=Tm.size_ks t
    have h2:=Tm.size_ks (.mk t.k t.n t.m (if id<t.i then t.i-1 else t.i) (woL id val t.ks))
    have h3:=hK t.ks fun w hw=>by
     obtain⟨i,hi⟩:=List.getElem?_of_mem hw
     exact(IH i w hi _ (hkid i)).size
    simp only[Tm.ks_mk] at h2
    omega
   ·refine .mk hf.1 hf.2.1 hf.2.2.1 ?_ (by rw[hl];exact hn.ok.len) fun w hw=>?_
    ·split<;>omega
    ·obtain⟨u,hu,rfl⟩:=qqh _ _ _ _ hw
     obtain⟨i,hi⟩:=List.getElem?_of_mem hu
     exact(IH i u hi _ (hkid i)).ok
theorem qhA {x:Sc}{t r:Tm}{ok:Nm->Bool}(hk:∀y,ok y=true->y.h=false)(ht:x.top<=Int.ofNat x.ids.length)(h:Nd x t)(e:clR x ok (ini t) t=some r):Good x t r:=by
 by_cases hk10:t.k=10
 ·have hsz:=h.gd.sz (by omega) (by omega)
  have hok:=h.ok
  have hf:=qcg hok
  have hnu:=fun u hu=>h.kid (u:=u) (j:=0) hu
  cases hs:h.sh with
  |new n m u=>
   have e:(if ok (qfl (cid x) u) then some (woF (cid x) (ini (.new n m u)) u) else none)=some r:=e
   split at e
   ·rename_i hu
    simp only[zac] at e
    subst e
    have hs2:=hsz
    rw[qeX,zag,zag,isSize_iff,isBelow_iff] at hs2
    have hv:∀Y,szF Y (ini (.new n m u))=(n,true):=fun Y=>by
     show szF Y (.num m n)=_
     rw[qdB,isSize_iff.2 hs2.2.1,isBelow_iff.2 hs2.2.2];rfl
    have hR:Rm n (cid x) (x.with ⟨⟨[],⟨true,n⟩⟩,false⟩) x:=⟨⟨x.ids,[],rfl,(zbg _).symm,rfl⟩,rfl,rfl,by show x.top<Int.ofNat x.ids.length+1;omega⟩
    obtain⟨h1,h2,h3⟩:=qv4 hv rfl (qiF (show 0<=m/\m<=64 by omega) (show 0<=n/\n<=64 by omega)) u.size u _ x 0 (zan _) hR (hnu u rfl) (hk _ hu)
    refine⟨?_,hsz,by simp only[Tm.size,Tm.sizeL];omega,h3⟩
    rw[qeX,<-h1.1,hs2.1,isSize_iff.2 hs2.2.1,isBelow_iff.2 hs2.2.2]
    exact Prod.ext rfl hs2.1.symm
   ·cases e
  |_=>simp only[Tm.k_mk] at hk10;omega
 ·unfold clR at e;rw[if_neg hk10] at e;cases e
theorem keep {x:Sc}{t r:Tm}{i:Nat}(h:Nd x t)(ht:x.top<=Int.ofNat x.ids.length)(hi:i<22)(e:qbn i x t=some r):Good x t r:=by
 match i,hi with
 |0,_=>exact qt2 h e
 |1,_=>exact qt3 h e
 |2,_=>exact qp9 h e
 |3,_=>exact qk2 h e
 |4,_=>exact qqa h e
 |5,_=>exact qt4 h e
 |6,_=>exact qqb h e
 |7,_=>exact qrV h e
 |8,_=>exact qqc h e
 |9,_=>exact qqd h e
 |10,_=>exact qqg h e
 |11,_=>exact qqe h e
 |12,_=>exact qog h e
 |13,_=>exact qhA (fun y hy=>by simp only[okU,zag,za0] at hy;exact hy.2.2) ht h e
 |14,_=>exact qhA (fun y hy=>by simp only[qrP,zag,za0] at hy;exact hy.2.2) ht h e
 |15,_=>exact qhA (fun y hy=>by simp only[qrQ,zag,za0] at hy;exact hy.2.2) ht h e
 |16,_=>exact qoi h e
 |17,_=>exact qoj h e
 |18,_=>exact qqf h e
 |19,_=>exact ql8 h e
 |20,_=>exact ql7 h e
 |21,_=>exact qoh h e
 |_+22,h=>exact absurd h (by omega)
end Go.AI.Tryz
namespace Go.AI
def qdV (u:Tm)(a:Int)(t:Tm):Tm:=if 0<=a/\a<t.size then Tm.put1 u a.toNat t else t
mutual
theorem qk3 (u:Tm):∀(t:Tm) (j:Nat),(Tm.put1 u j t).size<=t.size+u.size
 |t,0=>by cases t;rw[Tm.put1];omega
 |.mk k n m i ks,j+1=>by
  have:=qk4 u ks j
  simp only[Tm.put1,Tm.size];omega
theorem qk4 (u:Tm):∀(ks:List Tm) (j:Nat),Tm.sizeL (Tm.putL u j ks)<=Tm.sizeL ks+u.size
 |[],j=>by cases j<;>simp only[Tm.putL]<;>omega
 |k::r,j=>by
  have h1:=qk3 u k j
  have h2:=qk4 u r (j-k.size)
  simp only[Tm.putL]
  split<;>simp only[Tm.sizeL]<;>omega
end
theorem qqi (u:Tm)(a:Int)(t:Tm):(qdV u a t).size<=t.size+u.size:=by
 unfold qdV
 split
 ·exact qk3 u t _
 ·omega
def qiG:Int×Int×Tm->Tm->Int->(Int×Int×Tm)×(Tm×Bool):=fun c t l=>(((qdU c.2.1 c.2.2 c.1 t l).1,c.2),(qdU c.2.1 c.2.2 c.1 t l).2)
theorem qno (a:Int)(u:Tm):∀(d:Nat) (c:Int) (t:Tm) (l:Int),qc9 qiG d (c,a,u) t l=(((qc9 (qdU a u) d c t l).1,a,u),(qc9 (qdU a u) d c t l).2)
 |0,c,t,l=>rfl
 |d+1,c,t,l=>by
  have hk:∀(lab:Bool) (ks:List Tm) (j:Nat) (c:Int),qfJ (qc9 qiG d) lab l j (c,a,u) ks=(((qfJ (qc9 (qdU a u) d) lab l j c ks).1,a,u),(qfJ (qc9 (qdU a u) d) lab l j c ks).2):=by
   intro lab ks
   induction ks with
   |nil=>intro j c;rfl
   |cons w r ih=>
    intro j c
    simp only[qfJ,qno a u d,ih]
  simp only[qc9,qiG,hk]
  split<;>rfl
theorem qnp (a:Int)(ha:a<0)(u:Tm):∀(d c:Nat) (t:Tm) (l:Int),t.size<=d->c+t.size<=1000000000->qc9 (qdU a u) d (.ofNat c) t l=(.ofNat (c+t.size),t)
 |0,c,t,l,h,_=>by have:=Tm.size_pos t;omega
 |d+1,c,t,l,h,hc=>by
  have hk:∀(lab:Bool) (ks:List Tm) (j c:Nat),(∀u∈ks,u.size<=d)->c+Tm.sizeL ks<=1000000000->qfJ (qc9 (qdU a u) d) lab l j (.ofNat c) ks=(.ofNat (c+Tm.sizeL ks),ks):=by
   intro lab ks
   induction ks with
   |nil=>intro j c _ _;rfl
   |cons w r ih=>
    intro j c hu hc
    simp only[Tm.sizeL] at hc
    have h1:=qnp a ha u d c w (if lab&&decide (j=0) then l+1 else l) (hu w (zau ..)) (by omega)
    have ih:=ih (j+1) (c+w.size) (fun v hv=>hu v (zax _ hv)) (by omega)
    simp only[qfJ,h1,ih,Tm.sizeL]
    rw[show c+w.size+Tm.sizeL r=c+(w.size+Tm.sizeL r) by omega]
  have hsz:=Tm.size_ks t
  unfold qc9
  rw[qnh (by omega),if_neg (show¬Int.ofNat c=a from fun h=>by rw[<-h] at ha;simp only[zaf] at ha;omega)]
  simp only[if_true]
  rw[hk _ t.ks 0 (c+1) (fun v hv=>by have:=Tm.sizeL_mem hv;omega) (by omega),Tm.with_ks,show c+1+Tm.sizeL t.ks=c+t.size by omega]
theorem qqj (a:Int)(u t:Tm)(hs:t.size<=100000):(qc9 (qdU a u) t.size 0 t 0).2=qdV u a t:=by
 unfold qdV
 by_cases h0:0<=a
 ·obtain⟨b,rfl⟩:∃b:Nat,a=Int.ofNat b:=⟨a.toNat,by simp only[zaf];omega⟩
  have hp:=qni b u t.size 0 t 0 (zan _) (by omega)
  by_cases hb:b<t.size
  ·rw[PutR.inn (by omega)] at hp
   obtain⟨c',e,_⟩:=hp
   have e:qc9 (qdU (.ofNat b) u) t.size 0 t 0=_:=e
   rw[e,if_pos (by simp only[zaf];omega)]
   rfl
  ·rw[PutR.out (by omega)] at hp
   have hp:qc9 (qdU (.ofNat b) u) t.size 0 t 0=_:=hp
   rw[hp,if_neg (by simp only[zaf];omega)]
 ·rw[if_neg (by omega)]
  have e:qc9 (qdU a u) t.size 0 t 0=_:=qnp a (by omega) u t.size 0 t 0 (zan _) (by omega)
  rw[e]
end Go.AI
namespace Go.AI.Tryz
def RP2 (q:Nat×qaR)(c:Int×Int×Tm)(E:qaR)(s:ASt):Prop:=RP c.2.1 c.2.2 q c.1 E s
theorem qv5 (d:Nat):Ev fun n=>∀q,ByC (RP2 q) qiG (.func 115 [] [.ptr (q.1+2) 0,.ptr q.1 0,.ptr (q.1+1) 0]) (fun _=>True) n d:=by
 refine Ev.succ ((Ev.ge 1).mono fun n hn q c E s t l h1 h2 h3 h4 hr=>?_)
 obtain⟨c,a,u⟩:=c
 obtain⟨N,H0⟩:=q
 unfold RP2 RP at hr
 simp only at hr
 rw[qh0 CP (by omega),qb4]
 simp only[zaJ,zaF]
 let s2:ASt:={s with heap:=(N+2,.cells [i64 (qbb .i64 (c+1))])::(N+1,.cells u.c)::(N,.cells [i64 a])::H0}
 refine⟨s2,?_,rfl,TF.refl s⟩
 refine qfy (cf:=cf115) (np:=5) (args':=[t.v,i64 l,.ptr (N+2) 0,.ptr N 0,.ptr (N+1) 0]) (by kernel_rfl) (by kernel_rfl) rfl (by simp only[zap,qak];rfl) (by simp only[zam,qai];rfl) ((s115_eq _ _ _ _ _ _ _ _).trans (?_:_=some (.tuple [(qdU a u c t l).2.1.v,bl (qdU a u c t l).2.2],s2))) (qb5 _ _) (by rw[Tm.v_eq];rfl)
 have hst:stH s (.ptr (N+2) 0) [i64 (qbb .i64 (c+1))]=some s2:=qqT hr rfl rfl
 have c1:qar (qag CP n E).E s (N+2)=some [i64 c]:=qaS hr
 have c2:qar (qag CP n E).E s2 (N+2)=some [i64 (qbb .i64 (c+1))]:=qaS rfl
 have c3:qar (qag CP n E).E s2 (N+1)=some u.c:=by rw[qbx (s:=s2) rfl (by omega)];exact qaS rfl
 have c4:qar (qag CP n E).E s2 N=some [i64 a]:=by rw[qbx (s:=s2) rfl (by omega),qbx rfl (by omega)];exact qaS rfl
 unfold s115 qdU
 by_cases ha:qbb .i64 (qbb .i64 (c+1)-1)=a
 ·simp only[ldP c1,ldP c2,ldP c3,ldP c4,qdb,qby,hst,ha,if_true,qah,qaU,qav,qad,qaf,qaw,qa2,decide_true,qaa,cond_true,zab,zaa]
 ·simp only[ldP c1,ldP c2,ldP c3,ldP c4,qdb,qby,hst,ha,if_false,qah,qaU,qav,qad,qaf,qaw,qa2,decide_false,qaa,cond_false,zab,zaa]
theorem qrW (D:Nat)(hD:D<=900000):UC 60 (fun t:Tm=>[t.v]) (fun t _ _=>t.size<=D) (fun t=>t.v):=by
 refine UC.of (cf:=cf60) (np:=1) (by kernel_rfl) (by kernel_rfl) (fun _=>rfl) (fun _=>by simp only[zap,qak];rfl) (fun _=>by simp only[zam,qai];rfl) (fun _=>Stab.pure _) (fun t lo=>qaM lo _)
  ((qd6 (R:=fun _ _ _ _=>True) (fv:=fun _=>_) (fun _ _ _ _ _ _ _ _=>trivial) (fun _=>rfl) (fun _=>rfl) (fun _ t _ _ _=>⟨zan _,fun _ _=>trivial⟩) D (qpU (g:=fun t _=>(t,true)) (Ad:=fun _=>True) (d:=D) qkX)).mono fun n h t E s hs=>?_)
 obtain⟨s',h',_,_⟩:=h () () E s t 0 hs trivial (by omega) (by omega) trivial
 have e:=qgG (σ:=Unit) (fun t _=>t) (fun _ _=>⟨rfl,rfl⟩) D () t 0 hs
 rw[show(fun(x:Unit) (t:Tm) (l:Int)=>(x,(fun(t:Tm) (_:Int)=>(t,true)) t l))=fun x t l=>(x,(fun(t:Tm) (_:Int)=>t) t l,true) from rfl,e,qpS t.size t 0 (zan _)] at h'
 refine⟨t.v,s',(s60_eq _ _ _ _).trans ?_,qai _⟩
 unfold s60
 simp only[h',qah,qaU,qav,zaa,qab]
theorem qxK (t:Tm)(hs:t.size<=100000):UC 66 (fun p:Int×Tm=>[t.v,i64 p.1,p.2.v]) (fun p _ _=>p.2.size<=100000) (fun p=>(qdV p.2 p.1 t).v):=by
 refine UC.of (cf:=cf66) (np:=3) (by kernel_rfl) (by kernel_rfl) (fun _=>rfl) (fun _=>by simp only[zap,qak];rfl) (fun _=>by simp only[zam,qai];rfl) (fun _=>Stab.pure _) (fun t lo=>qaM lo _)
  (((qd6 (κ:=Nat×qaR) (R:=RP2) (by_:=qiG) (Ad:=fun _=>True) (fv:=fun q=> .func 115 [] [.ptr (q.1+2) 0,.ptr q.1 0,.ptr (q.1+1) 0]) (fun q x E s s' r e1 e2=>by unfold RP2 RP at r⊢;rw[e1];exact r) (fun _=>rfl) (fun _=>rfl) (fun c t l _ hgo=>by
   unfold qiG qdU at hgo⊢
   split
   ·rename_i h;simp only[h,if_true] at hgo;cases hgo
   ·exact⟨zan _,fun _ _=>trivial⟩) t.size (qv5 t.size)).and (qrW 200000 (by omega))).mono fun n ⟨h,hcp⟩ p E s hp=>?_)
 obtain⟨a,u⟩:=p
 simp only at hp⊢
 let s14:=qal (qal (qal s (.cells [i64 a])) (.cells u.c)) (.cells [i64 0])
 obtain⟨s',e1,e2,_⟩:=h (s.next,s.heap) (0,a,u) E s14 t 0 (zan _) trivial (by omega) (by omega) rfl
 rw[qno] at e1
 simp only[qqj a u t hs] at e1
 have hcp':=hcp (qdV u a t) E s' (by have:=qqi u a t;omega)
 have hst:stH (qal (qal (qal s (.cells [i64 a])) (.cells u.c)) (.cells [i64 0])) (.ptr (qal (qal s (.cells [i64 a])) (.cells u.c)).next 0) [i64 0]=some s14:=qjv _ _ _ _ _ rfl rfl
 have haw:[i64 a].all qaY=true:=rfl
 have e1':cl (qag CP n E) 108 [t.v,i64 0,.func 115 [] [.ptr (qal (qal s (.cells [i64 a])) (.cells u.c)).next 0,.ptr s.next 0,.ptr (qal s (.cells [i64 a])).next 0]] s14=some ((qdV u a t).v,s'):=e1
 refine⟨(qdV u a t).v,s',(s66_eq _ _ _ _ _ _).trans ?_,qai _⟩
 unfold s66
 simp only[haw,qby,hst,e1',hcp',qah,qaU,qav,qvD,zaa,qab,qa3,qbw,cnd]
end Go.AI.Tryz
namespace Go.AI.Tryz
abbrev rv (w:Rw):zA:=.agg [u8 w.1,i64 w.2]
theorem qsN (ng:Bool)(v w:Rw):eqs [1,1] ng (rv v) (rv w)=some (bl (cond ng (!(decide (v.1=w.1)&&decide (v.2=w.2))) (decide (v.1=w.1)&&decide (v.2=w.2)))):=by
 have h1:∀k a b,qsV (.int k a) (.int k b)=some (decide (a=b)):=fun k a b=>by
  show cond (keq k k) (some (ieq a b)) none=_
  rw[qcG];cases k<;>rfl
 have h2:∀k a b,eqK 1 (.p (.int k a)) (.p (.int k b))=some (decide (a=b)):=fun k a b=>by rw[<-h1 k a b];rfl
 unfold eqs pu
 simp only[qaF,qsU,Arg.ev,qnG,h2,zaa]
 cases decide (v.1=w.1)<;>cases decide (v.2=w.2)<;>cases ng<;>rfl
abbrev ZC:List zA:=[u8 0,i64 0,i64 0,i64 0,.sl 0 [] .full]
def qv6 (t:Tm)(w:Rw)(y:Option Tm)(o:Of):Option Tm×Bool:=if decide (o.1=w.1)&&decide (o.2.1=w.2) then(some (qdV o.2.2 w.2 t),false) else(y,true)
def qok (a:Ar)(t:Tm)(w:Rw):Option Tm:=(qbz (qv6 t w) none (qcO (fun k=>decide (k=w.1)) 0 (qbi t (qaB a)))).1
end Go.AI.Tryz
namespace Go.AI.Tryz
theorem qqk {a:Ar}{t:Tm}(hc:qbN a t=0)(ok:t.Ok)(h1:a.ids.length<=100000)(hs:t.size<=100000)(hg:∀p∈qbi t (qaB a),p.1.top<=Int.ofNat p.1.ids.length):∀p∈qbi t (qaB a),∀i,i<22->∀u,qbn i p.1 p.2=some u->u.size<=100000:=by
 intro p hp i hi u hu
 obtain⟨hn,hsz⟩:=qfG _ t (qaB a) (zan _) (ql3 hc ok h1 hs) p hp
 have:=(keep hn (hg p hp) hi hu).le
 omega
mutual
theorem qk5:∀(t:Tm) (x:Sc),x.top<=Int.ofNat x.ids.length->∀p∈qbi t x,p.1.top<=Int.ofNat p.1.ids.length
 |.mk k n m i ks,x,hx=>by
  intro p hp
  rw[qbi] at hp
  rcases zaA.1 hp with rfl|hp
  ·exact hx
  ·refine qiH ks _ 0 (fun j=>?_) p hp
   unfold Sc.kid
   split
   ·simp only[Sc.with,zaw,zar,zaB,zaf] at hx⊢;omega
   ·split
    ·simp only[Sc.with,zaw,zar,zaB,zaf] at hx⊢;omega
    ·split
     ·exact hx
     ·exact hx
theorem qiH:∀(ks:List Tm) (sc:Nat->Sc) (j:Nat),(∀j,(sc j).top<=Int.ofNat (sc j).ids.length)->∀p∈qbe sc j ks,p.1.top<=Int.ofNat p.1.ids.length
 |[],_,_,_=>by intro p hp;simp only[qbe] at hp;cases hp
 |u::r,sc,j,hx=>by
  intro p hp
  simp only[qbe,zaI] at hp
  rcases hp with hp|hp
  ·exact qk5 u _ (hx j) p hp
  ·exact qiH r sc (j+1) hx p hp
end
theorem qo2 (a:Ar)(t:Tm):∀p∈qbi t (qaB a),p.1.top<=Int.ofNat p.1.ids.length:=qk5 t _ (by simp only[qaB,zaZ];exact Int.le_refl _)
end Go.AI.Tryz
namespace Go.AI.Tryz
theorem zbd:bd [u8 0,i64 0,i64 0,i64 0,.sl 0 [] .full] []=some (.agg [u8 0,i64 0,i64 0,i64 0,.sl 0 [] .full]):=rfl
theorem qql:zA.cells (some 5) (.agg [u8 0,i64 0,i64 0,i64 0,.sl 0 [] .full])=some [u8 0,i64 0,i64 0,i64 0,.sl 0 [] .full]:=rfl
theorem qx7:ldL [u8 0,i64 0,i64 0,i64 0,.sl 0 [] .full] 0 (some 5)=some (.agg [u8 0,i64 0,i64 0,i64 0,.sl 0 [] .full]):=rfl
theorem qv7:over [u8 0,i64 0,i64 0,i64 0,.sl 0 [] .full] 0 [u8 0,i64 0,i64 0,i64 0,.sl 0 [] .full]=some [u8 0,i64 0,i64 0,i64 0,.sl 0 [] .full]:=rfl
theorem qcQ (a:Ar):zA.cells (some 4) a.v=some [.p (.sl a.ids.length (qaQ Ty.cells a.ids)),bl a.root.cell,i64 a.root.n,bl a.jumps]:=rfl
theorem qhJ (a:Ar):ldL [.p (.sl a.ids.length (qaQ Ty.cells a.ids)),bl a.root.cell,i64 a.root.n,bl a.jumps] 0 (some 4)=some a.v:=rfl
end Go.AI.Tryz
namespace Go.AI.Tryz
abbrev Y41:=Option (Option Of)
def qjE (log:List Rw)(_:Y41)(o:Of):Y41×Bool:=if log.length=2000 then(some none,false) else(some (some o),false)
def x41:Y41->EX
 |none=> .normal
 |some none=> .ret
 |some (some _)=> .exit 2
def t41 (t:Tm):Y41->Tm
 |some (some o)=>qdV o.2.2 o.2.1 t
 |_=>t
def qfH (log:List Rw):Y41->List Rw
 |some (some o)=>log++[(o.1,o.2.1)]
 |_=>log
def e41:Y41->Int
 |some none=>5
 |_=>0
def m41:Y41->Bool
 |some (some _)=>true
 |_=>false
structure K41 (ι:Type) where
 p:ι
 fr:Tr zA
 lo:Tr (Nat×List zA)
 M:Nat
 lf:Nat
 P:qaR
 s0:ASt
def B41 (s0:ASt)(t:Tm)(e:Int)(lg:zA):qaR:=(s0.next+4,.cells [lg])::(s0.next+3,.cells [i64 e])::(s0.next+2,.cells [.sl 0 [] .full])::(s0.next+1,.cells ZC)::(s0.next,.cells t.c)::s0.heap
section
variable {ι:Type} (fv:ι->zA) (C:ι->qaR->ASt->Prop) (sm:Int->Bool)
def U41 (x:Vw)(t:Tm)(log:List Rw)(q:K41 ι)(y:Y41)(E H:qaR)(tk:Nat×List (Nat×Nat×Nat)):Prop:=
 (q.fr.get qaq 4=.ptr q.s0.next 0/\q.fr.get qaq 6=.ptr (q.s0.next+1) 0/\q.fr.get qaq 7=.ptr (q.s0.next+2) 0/\q.fr.get qaq 8=.ptr (q.s0.next+3) 0/\q.fr.get qaq 9=.ptr (q.s0.next+4) 0/\q.fr.get qaq 10=.ptr q.lf 0/\(∀t,t<63->q.fr.has t=true)/\(∀i,q.lo.get (0,[]) i=(0,[]))/\q.lo.has 1=true/\q.lo.has 2=true)/\
 (C q.p E q.s0/\(∀v∈q.P,q.s0.next+5<=v.1)/\q.s0.next+5<=q.lf/\q.lf<q.M)/\
 ∃tok,H=(q.M+2,.loop (qow (x41 y)) (qeS (x41 y)) q.fr q.lo [21,22] ra41 rb41)::(q.M+1,.cells [fv q.p])::(q.M,.cells x.c)::(q.lf,.cells [bl (m41 y)])::(q.P++B41 q.s0 (t41 t y) (e41 y) (qbT tok (qfH log y)))/\ql4 tk tok (qfH log y)
theorem qt5 (x:Vw)(t:Tm)(log:List Rw)(hs:t.size<=100000)(hll:log.length<=2000):Ev fun n=>YC (fun q:K41 ι=>q.M+3) (fun q=> .yield (q.M+2)) (U41 fv C x t log) (qjE log) (fun u=>u.size<=100000) (fun _ y=>y=none) n:=by
 refine Ev.succ (((qxK t hs).and (Ev.ge 1)).mono fun n ⟨hput,hn⟩ q y E H pre s o m hos hh hpre hN hU hlv=>?_)
 subst hlv
 obtain⟨p,fr,lo,M,lf,P,s0⟩:=q
 obtain⟨⟨f4,f6,f7,f8,f9,f10,fh,l0,l1h,l2h⟩,⟨hC,hPi,hlf,hlm⟩,tok,hH,hok⟩:=hU
 simp only at f4 f6 f7 f8 f9 f10 fh l0 l1h l2h hC hPi hlf hlm hH hpre hN
 subst hH
 obtain⟨k,at_,u⟩:=o
 simp only at hos
 have hpl:∀v∈pre,v.1≠M+2:=fun v hv=>by have:=hpre v hv;omega
 let N:=s0.next
 let LP:zH:=.loop 1 none fr lo [21,22] ra41 rb41
 let Q:qaR:=pre++[(M+2,LP),(M+1,.cells [fv p]),(M,.cells x.c)]
 let q:K41 ι:=⟨p,fr,lo,M,lf,P,s0⟩
 let hp:Bool->Tm->Int->zA->qaR:=fun b t e lg=>Q++(lf,.cells [bl b])::(P++B41 s0 t e lg)
 let uf:ASt->ASt:=fun s=>{s with heap:=pre++(M+2,LP)::(M+1,.cells [fv p])::(M,.cells x.c)::(lf,.cells [bl false])::(P++B41 s0 t 0 (qbT tok log))}
 have hQ:∀v∈Q,lf<v.1:=by
  intro v hv
  simp only[Q,zaI,zaA,zaD,or_false] at hv
  rcases hv with hv|rfl|rfl|rfl
  ·have:=hpre v hv;omega
  ·simp only;omega
  ·simp only;omega
  ·simp only;omega
 have hQP:∀b,∀v∈Q++(lf,zH.cells [bl b])::P,N+5<=v.1:=by
  intro b v hv
  simp only[zaI,zaA] at hv
  rcases hv with hv|rfl|hv
  ·have:=hQ v hv;show s0.next+5<=v.1;omega
  ·exact hlf
  ·exact hPi v hv
 have hu0:(uf s).heap=hp false t 0 (qbT tok log):=by simp only[uf,hp,Q,zaH,zaF,zaJ]
 have i4:∀b t e lg,hp b t e lg=(Q++(lf,.cells [bl b])::P)++(N+4,.cells [lg])::(N+3,.cells [i64 e])::(N+2,.cells [.sl 0 [] .full])::(N+1,.cells ZC)::(N,.cells t.c)::s0.heap:=fun b t e lg=>by simp only[hp,B41,N,zaH,zaF]
 have i3:∀b t e lg,hp b t e lg=((Q++(lf,.cells [bl b])::P)++[(N+4,.cells [lg])])++(N+3,.cells [i64 e])::(N+2,.cells [.sl 0 [] .full])::(N+1,.cells ZC)::(N,.cells t.c)::s0.heap:=fun b t e lg=>by rw[i4];simp only[zaH,zaF,zaJ]
 have i2:∀b t e lg,hp b t e lg=((Q++(lf,.cells [bl b])::P)++[(N+4,.cells [lg]),(N+3,.cells [i64 e])])++(N+2,.cells [.sl 0 [] .full])::(N+1,.cells ZC)::(N,.cells t.c)::s0.heap:=fun b t e lg=>by rw[i4];simp only[zaH,zaF,zaJ]
 have i1:∀b t e lg,hp b t e lg=((Q++(lf,.cells [bl b])::P)++[(N+4,.cells [lg]),(N+3,.cells [i64 e]),(N+2,.cells [.sl 0 [] .full])])++(N+1,.cells ZC)::(N,.cells t.c)::s0.heap:=fun b t e lg=>by rw[i4];simp only[zaH,zaF,zaJ]
 have i0:∀b t e lg,hp b t e lg=((Q++(lf,.cells [bl b])::P)++[(N+4,.cells [lg]),(N+3,.cells [i64 e]),(N+2,.cells [.sl 0 [] .full]),(N+1,.cells ZC)])++(N,.cells t.c)::s0.heap:=fun b t e lg=>by rw[i4];simp only[zaH,zaF,zaJ]
 have hne:∀b (T:qaR) (l:Nat),l<N+5->(∀v∈T,l<v.1)->∀v∈(Q++(lf,.cells [bl b])::P)++T,v.1≠l:=by
  intro b T l hl hT v hv
  rw[zaI] at hv
  rcases hv with hv|hv
  ·have:=hQP b v hv;omega
  ·have:=hT v hv;omega
 have n4:∀b,∀v∈Q++(lf,zH.cells [bl b])::P,v.1≠N+4:=fun b v hv=>by have:=hQP b v hv;omega
 have n3:∀b lg,∀v∈(Q++(lf,.cells [bl b])::P)++[(N+4,zH.cells [lg])],v.1≠N+3:=fun b lg=>hne b _ _ (by omega) (by intro v hv;simp only[zaA,zaD,or_false] at hv;subst hv;simp only;omega)
 have n2:∀b lg e,∀v∈(Q++(lf,.cells [bl b])::P)++[(N+4,zH.cells [lg]),(N+3,.cells [i64 e])],v.1≠N+2:=fun b lg e=>hne b _ _ (by omega) (by intro v hv;simp only[zaA,zaD,or_false] at hv;rcases hv with rfl|rfl<;>simp only<;>omega)
 have n1:∀b lg e,∀v∈(Q++(lf,.cells [bl b])::P)++[(N+4,zH.cells [lg]),(N+3,.cells [i64 e]),(N+2,.cells [.sl 0 [] .full])],v.1≠N+1:=fun b lg e=>hne b _ _ (by omega) (by intro v hv;simp only[zaA,zaD,or_false] at hv;rcases hv with rfl|rfl|rfl<;>simp only<;>omega)
 have n0:∀b lg e,∀v∈(Q++(lf,.cells [bl b])::P)++[(N+4,zH.cells [lg]),(N+3,.cells [i64 e]),(N+2,.cells [.sl 0 [] .full]),(N+1,.cells ZC)],v.1≠N:=fun b lg e=>hne b _ _ (by omega) (by intro v hv;simp only[zaA,zaD,or_false] at hv;rcases hv with rfl|rfl|rfl|rfl<;>simp only<;>omega)
 have c4:∀(s':ASt) b t e lg,s'.heap=hp b t e lg->qar (qag CP n E).E s' (N+4)=some [lg]:=fun s' b t e lg h=>qcu (h.trans (i4 ..)) (n4 b)
 have c0:∀(s':ASt) b t e lg,s'.heap=hp b t e lg->qar (qag CP n E).E s' N=some t.c:=fun s' b t e lg h=>qcu (h.trans (i0 ..)) (n0 b lg e)
 have e1:zA.cells (some 2) (rwV (k,at_,u))=some [u8 k,i64 at_]:=rfl
 have l2:ldL [u8 k,i64 at_] 0 (some 2)=some (rv (k,at_)):=rfl
 have l1:ldL [u8 k,i64 at_] 1 none=some (i64 at_):=rfl
 have one:∀v:zA,ldL [v] 0 none=some v:=fun _=>rfl
 have hx:∃s2 tok',qvm 63 3 (qag CP n E) n ra41 rb41 uf ((21,rwV (k,at_,u))::(22,u.v)::[(4,.ptr N 0),(6,.ptr (N+1) 0),(7,.ptr (N+2) 0),(8,.ptr (N+3) 0),(9,.ptr (N+4) 0),(10,.ptr lf 0)]) [(1,(0,[])),(2,(0,[]))] s=some (qlM (x41 (qjE log none (k,at_,u)).1),s2)/\
   s2.heap=hp (m41 (qjE log none (k,at_,u)).1) (t41 t (qjE log none (k,at_,u)).1) (e41 (qjE log none (k,at_,u)).1) (qbT tok' (qfH log (qjE log none (k,at_,u)).1))/\s2.next=s.next/\ql4 (qnd s2) tok' (qfH log (qjE log none (k,at_,u)).1):=by
  by_cases hm:log.length=2000
  ·have hst:qjE log none (k,at_,u)=(some none,false):=by unfold qjE;rw[if_pos hm]
   rw[hst]
   have w1:stH (uf s) (.ptr (N+1) 0) [u8 0,i64 0,i64 0,i64 0,.sl 0 [] .full]=some (uf s):=by
    have:=qh7 (o:=0) (cs:=ZC) (new:=ZC) (hu0.trans (i1 ..)) (n1 false (qbT tok log) 0) rfl rfl
    rw[<-i1,<-hu0] at this
    exact this
   have w2:stH (uf s) (.ptr (N+2) 0) [.sl 0 [] .full]=some (uf s):=by
    have:=qh7 (o:=0) (cs:=[.sl 0 [] .full]) (new:=[.sl 0 [] .full]) (hu0.trans (i2 ..)) (n2 false (qbT tok log) 0) rfl rfl
    rw[<-i2,<-hu0] at this
    exact this
   have w3:stH (uf s) (.ptr (N+3) 0) [i64 5]=some {uf s with heap:=hp false t 5 (qbT tok log)}:=by
    have:=qh7 (o:=0) (cs:=[i64 5]) (new:=[i64 5]) (hu0.trans (i3 ..)) (n3 false (qbT tok log)) rfl rfl
    rw[<-i3] at this
    exact this
   have hfz:zA.cells none (.sl 0 [] .full)=some [.sl 0 [] .full]:=rfl
   refine⟨{uf s with heap:=hp false t 5 (qbT tok log)},tok,(y41_eq (qag CP n E) n uf N (N+1) (N+2) (N+3) (N+4) (.ptr lf 0) (rwV (k,at_,u)) u.v s).trans ?_,rfl,rfl,hok⟩
   have hln:i64 (.ofNat log.length)=i64 2000:=by rw[hm];rfl
   unfold y41
   simp only[e1,qlN,ldP (c4 (uf s) _ _ _ _ hu0),one,qng,hln,zbd,qql,w1,w2,w3,hfz,qby,qah,qav,qad,qaf,decide_true,qaa,cond_true,zab,zaa,cnd]
   rfl
  ·have hst:qjE log none (k,at_,u)=(some (some (k,at_,u)),false):=by unfold qjE;rw[if_neg hm]
   rw[hst]
   have hput':=hput (at_,u) E (uf s) hos
   simp only at hput'
   obtain⟨tok',ts,nt',a1,a2⟩:=qt0 (qag CP n E) (s:=uf s) (y:=log) (tok:=tok) hok (k,at_) (by omega)
   let sA:ASt:={uf s with ntok:=nt',toks:=ts}
   have hA:sA.heap=hp false t 0 (qbT tok log):=hu0
   have w0:stH sA (.ptr N 0) (qdV u at_ t).c=some {sA with heap:=hp false (qdV u at_ t) 0 (qbT tok log)}:=by
    have:=qh7 (o:=0) (cs:=(qdV u at_ t).c) (new:=(qdV u at_ t).c) (hA.trans (i0 ..)) (n0 false (qbT tok log) 0) rfl rfl
    rw[<-i0] at this
    exact this
   let sB:ASt:={sA with heap:=hp false (qdV u at_ t) 0 (qbT tok log)}
   have w4:stH sB (.ptr (N+4) 0) [qbT tok' (log++[(k,at_)])]=some {sB with heap:=hp false (qdV u at_ t) 0 (qbT tok' (log++[(k,at_)]))}:=by
    have:=qh7 (s:=sB) (o:=0) (cs:=[qbT tok' (log++[(k,at_)])]) (new:=[qbT tok' (log++[(k,at_)])]) (i4 ..) (n4 false) (qjC _ _) rfl
    rw[<-i4] at this
    exact this
   let sC:ASt:={sB with heap:=hp false (qdV u at_ t) 0 (qbT tok' (log++[(k,at_)]))}
   have w5:stH sC (.ptr lf 0) [bl true]=some {sC with heap:=hp true (qdV u at_ t) 0 (qbT tok' (log++[(k,at_)]))}:=by
    exact qh7 (s:=sC) (o:=0) (cs:=[bl true]) (new:=[bl true]) (zs:=[bl false]) rfl (fun v hv=>by have:=hQ v hv;omega) rfl rfl
   have w0':stH {next:=(uf s).next,heap:=(uf s).heap,ntok:=nt',toks:=ts} (.ptr N 0) (qdV u at_ t).c=some sB:=w0
   have w4':stH sB (.ptr (N+4) 0) [qbT tok' (log++[(k,at_)])]=some sC:=w4
   have hms:ms 1 [.int .u8 0,.int .i64 0] [(0,some 2,.c (rv (k,at_)))]=some (.sl 1 (rwC (k,at_)) .full):=rfl
   have hpu:(qag CP n E).pure 66=true:=by
    have h66:qda CP 66=true:=by kernel_rfl
    have:∀m E,(qag CP m E).pure=qda CP:=fun m E=>by cases m<;>rfl
    rw[this];exact h66
   have hln:¬(Int.ofNat log.length=2000):=fun h=>hm (by simp only[zaf] at h;omega)
   refine⟨{sC with heap:=hp true (qdV u at_ t) 0 (qbT tok' (log++[(k,at_)]))},tok',(y41_eq (qag CP n E) n uf N (N+1) (N+2) (N+3) (N+4) (.ptr lf 0) (rwV (k,at_,u)) u.v s).trans ?_,rfl,rfl,a2⟩
   unfold y41
   simp only[e1,qlN,l2,l1,ldP (c4 (uf s) _ _ _ _ hu0),ldP (c0 (uf s) _ _ _ _ hu0),one,qng,hln,hput',hms,a1,qhz,w0',w4',w5,hpu,zbl,za7,qbU,qah,qaU,qav,qad,qaf,decide_false,qaa,cond_false,zab,zaa,qab,cnd]
   rfl
 obtain⟨s2,tok',hrun,hs2,hs2n,hs2k⟩:=hx
 generalize hr:qjE log none (k,at_,u)=R at hrun hs2 hs2k
 have hgo:qjU (x41 R.1)=R.2/\(R.2=true->R.1=none):=by
  subst hr
  unfold qjE
  split<;>exact⟨rfl,by simp⟩
 have hs2':s2.heap=pre++(M+2,.loop 1 none fr lo [21,22] ra41 rb41)::((M+1,.cells [fv p])::(M,.cells x.c)::(lf,.cells [bl (m41 R.1)])::(P++B41 s0 (t41 t R.1) (e41 R.1) (qbT tok' (qfH log R.1)))):=by
  rw[hs2];simp only[hp,Q,LP,zaH,zaF,zaJ]
 have hy:=qtY (n:=n) (nt:=63) (nl:=3) (E:=E) (ly:=M+2) (fr:=fr) (lo:=lo) (pre:=pre) (F0:=[(4,.ptr N 0),(6,.ptr (N+1) 0),(7,.ptr (N+2) 0),(8,.ptr (N+3) 0),(9,.ptr (N+4) 0),(10,.ptr lf 0)]) (L:=[(1,(0,[])),(2,(0,[]))]) (v1:=rwV (k,at_,u)) (v2:=u.v) (x:=x41 R.1) (by kernel_rfl) (by kernel_rfl) (by omega) (by omega) (by omega) hh hpl
  (fun t u hu=>by
   simp only[qap] at hu
   split at hu
   ·rename_i e;subst e;rw[f4];simpa using hu
   ·split at hu
    ·rename_i e;subst e;rw[f6];simpa using hu
    ·split at hu
     ·rename_i e;subst e;rw[f7];simpa using hu
     ·split at hu
      ·rename_i e;subst e;rw[f8];simpa using hu
      ·split at hu
       ·rename_i e;subst e;rw[f9];simpa using hu
       ·split at hu
        ·rename_i e;subst e;rw[f10];simpa using hu
        ·cases hu) fh
  (fun i p hi=>by
   simp only[qap] at hi
   split at hi
   ·rename_i e;subst e
    simp only[zac] at hi
    subst hi
    exact⟨l0 _,l1h⟩
   ·split at hi
    ·rename_i e;subst e
     simp only[zac] at hi
     subst hi
     exact⟨l0 _,l2h⟩
    ·cases hi) (by simp only[zap,qak];rfl) hrun hs2'
 rw[hgo.1] at hy
 exact⟨_,_,hy,rfl,hs2n,⟨⟨f4,f6,f7,f8,f9,f10,fh,l0,l1h,l2h⟩,⟨hC,hPi,hlf,hlm⟩,tok',rfl,hs2k⟩,hgo.2⟩
end
end Go.AI.Tryz
namespace Go.AI.Tryz
noncomputable def F41 (e:Env) (n:Nat) (c4:List zA) (l6:Nat) (x2:zA) (l8:Nat) (l10:Nat) (l12:Nat) (l14:Nat):(zA->Nat->Nat->List zA->List zA->ASt->Res)->zA->Nat->Nat->List zA->List zA->ASt->Res:=(fun h31 x25 g26 g27 c28 c29 s30=>
 (ldH e s30 x25 none).bind fun x32=>
 qae x32 ((zA.cells none (bl false)).bind fun c33=>
 (stH s30 x25 c33).bind fun s34=>
 (ldL c4 0 (some 4)).bind fun x35=>
 (ldH e s34 (.ptr l6 0) (some 5)).bind fun x36=>
 qac (cl e 65 [x35,x36] s34) fun x37 s38=>
 qac (cl e 54 [x37,x2] s38) fun x39 s40=>
 jn (s41_0 e n x25 h31) fun j51=>
 rfK e n 63 x39 [21,22] ra41 rb41 [(20,x39),(19,x2),(18,x37),(17,x36),(16,x35),(15,x32),(10,x25),(2,x2),(3,(.lptr 0 1 0)),(4,(.ptr l6 0)),(6,(.ptr l8 0)),(7,(.ptr l10 0)),(8,(.ptr l12 0)),(9,(.ptr l14 0))] [(1,(g26,c28)),(2,(g27,c29)),(0,(1,c4)),(0,(0,[]))] s40 (fun s52=>j51 g26 g27 c28 c29 s52) (fun s53=>j51 g26 g27 c28 c29 s53) (fun s54=>(ldH e s54 (.ptr l8 0) (some 5)).bind fun x55=>
 (ldH e s54 (.ptr l10 0) none).bind fun x56=>
 (ldH e s54 (.ptr l12 0) none).bind fun x57=>
 some (.tuple [x55,x56,x57],s54)))
 ((ldH e s30 (.ptr l6 0) (some 5)).bind fun x91=>
 (ldH e s30 (.ptr l14 0) none).bind fun x92=>
 (zA.cells (some 5) x91).bind fun c93=>
 (stH s30 (.ptr l8 0) c93).bind fun s94=>
 (zA.cells none x92).bind fun c95=>
 (stH s94 (.ptr l10 0) c95).bind fun s96=>
 (zA.cells none (i64 0)).bind fun c97=>
 (stH s96 (.ptr l12 0) c97).bind fun s98=>
 cnd ((qaT (loadFrom e.E .nil s30 (.ptr l14 0) 1) (loadFrom e.E .nil s94 (.ptr l14 0) 1)&&true)&&true) ((ldH e s98 (.ptr l8 0) (some 5)).bind fun x99=>
 (ldH e s98 (.ptr l10 0) none).bind fun x100=>
 (ldH e s98 (.ptr l12 0) none).bind fun x101=>
 some (.tuple [x99,x100,x101],s98)) none))
theorem lp41 (e:Env)(n:Nat)(c4:List zA)(l6:Nat)(x2:zA)(l8 l10 l12 l14:Nat):s41_1 e n c4 l6 x2 l8 l10 l12 l14=lp (fun _ _ _ _ _ _=>none) (F41 e n c4 l6 x2 l8 l10 l12 l14) n:=rfl
def qhB (a:Ar)(sm:Int->Bool):Nat->Tm->List Rw->Tm×List Rw×Int
 |0,_,_=>(.z,[],5)
 |m+1,t,log=>match qcO sm 0 (qbi t (qaB a)) with
  |[]=>(t,log,0)
  |o::_=>if log.length=2000 then(.z,[],5) else qhB a sm m (qdV o.2.2 o.2.1 t) (log++[(o.1,o.2.1)])
abbrev qfj (r:Tm×List Rw×Int):zA:=.tuple [r.1.v,qiE r.2.1,i64 r.2.2]
theorem qqm (r:Tm×List Rw×Int):qaD (qfj r)=qfj r:=by rw[qfj,Tm.v_eq];rfl
theorem qk6 (lo:Nat)(r:Tm×List Rw×Int):qeh lo (qfj r)=true:=by rw[qfj,Tm.v_eq];rfl
theorem qv8 (t:Tm)(tok:Nat)(log:List Rw)(e:Int):qaD (.tuple [t.v,qbT tok log,i64 e])=qfj (t,log,e):=by
 rw[qfj,Tm.v_eq]
 show zA.tuple [_,qde (qbT tok log),_]=_
 have:qde (qbT tok log)=qcj (qbT tok log):=by cases log<;>rfl
 rw[this,qv1]
 rfl
theorem qrX (tok:Nat)(log:List Rw):qaT (some [qbT tok log]) (some [qbT tok log])=true:=by
 cases log with
 |nil=>rfl
 |cons a r=>simp only[qaT,qbT,qdn,qov,qcS,qou,za8,zat]
theorem qea {sm:Int->Bool}:∀{l:List (Sc×Tm)} {b:Int} {o:Of},o∈qcO sm b l->∃j p i,l[j]? =some p/\o.2.1=b+Int.ofNat j/\i<22/\o.1=Int.ofNat (i+1)/\qbn i p.1 p.2=some o.2.2/\sm o.1=true
 |[],b,o,h=>by simp only[qcO] at h;cases h
 |p::r,b,o,h=>by
  simp only[qcO,zaI] at h
  rcases h with h|h
  ·unfold qdv at h
   rw[List.mem_filterMap] at h
   obtain⟨i,hi,h⟩:=h
   have hi:i<22:=by
    simp only[ruL,zaA,zaD,or_false] at hi
    omega
   split at h
   ·rename_i hs
    rw[zad] at h
    obtain⟨u,hu,rfl⟩:=h
    exact⟨0,p,i,rfl,by simp,hi,rfl,hu,hs⟩
   ·cases h
  ·obtain⟨j,q,i,h1,h2,h3⟩:=qea h
   exact⟨j+1,q,i,by simpa using h1,by rw[h2];simp only[zaf];omega,h3⟩
structure Right (a:Ar)(t:Tm):Prop where
 c:qbN a t=0
 ok:t.Ok
theorem Right.nd {a:Ar}{t:Tm}(h:Right a t)(h1:a.ids.length<=100000)(hs:t.size<=100000):Nd (qaB a) t:=ql3 h.c h.ok h1 hs
theorem qmb {a:Ar}{t:Tm}{sm:Int->Bool}{o:Of}(h:Right a t)(h1:a.ids.length<=100000)(hs:t.size<=100000)(ho:o∈qcO sm 0 (qbi t (qaB a))):Right a (qdV o.2.2 o.2.1 t)/\(qdV o.2.2 o.2.1 t).size<=t.size:=by
 have hnd:=h.nd h1 hs
 obtain⟨j,p,i,hj,ha,hi,_,hu,_⟩:=qea ho
 have hp:=zaM hj
 obtain⟨hn,hsz⟩:=qfG _ t _ (zan _) hnd p hp
 have g:=keep hn (qo2 a t p hp) hi hu
 have hjl:j<t.size:=by rw[<-qbO t (qaB a)];exact(zao.1 hj).1
 have hshu:Sh o.2.2:=qdj (x:=p.1) (by rw[<-g.sz];exact g.ok2)
 obtain⟨r1,r2,r3,r4⟩:=qkg g.ok (Lk.of_ok g.sz g.ok2) hshu t.size t (qaB a) j (zan _) hj hnd
 have e:qdV o.2.2 o.2.1 t=Tm.put1 o.2.2 j t:=by
  unfold qdV
  rw[if_pos (by rw[ha];simp only[zaf];omega),ha]
  congr 1
  simp only[zaf];omega
 have hle:=g.le
 rw[e]
 refine⟨⟨?_,r3⟩,by omega⟩
 have hc:=h.c
 unfold qbN at hc⊢
 split at hc
 ·rename_i h0;exact absurd hc h0
 ·rename_i h0
  rw[if_neg h0]
  split at hc
  ·omega
  ·rename_i h6
   rw[if_neg (by omega),<-r1.2 a.root]
   exact hc
section
variable {ι:Type} {fv:ι->zA} {C:ι->qaR->ASt->Prop} {sm:Int->Bool}
def SmH (fv:ι->zA)(C:ι->qaR->ASt->Prop)(sm:Int->Bool)(n:Nat):Prop:=∀p E (s0 s:ASt) (pre:qaR) (i:Nat),i<22->C p E s0->s.heap=pre++s0.heap->(∀v∈pre,s0.next<=v.1)->clv (qag CP n E) (fv p) [u8 (.ofNat (i+1))] s=some (bl (sm (.ofNat (i+1))),s)
theorem qv9 (x:Vw)(t:Tm)(log:List Rw)(h:Ev fun n=>SmH fv C sm n):Ev fun n=>SmC (fun q:K41 ι=>q.M+3) (fun q=>fv q.p) (U41 fv C x t log) sm n:=
 h.mono fun n h q y E H pre s i hi hh hp hU=>by
  obtain⟨_,⟨hC,hP,hlf,hlm⟩,tok,hH,_⟩:=hU
  subst hH
  refine h q.p E q.s0 s (pre++(q.M+2,.loop (qow (x41 y)) (qeS (x41 y)) q.fr q.lo [21,22] ra41 rb41)::(q.M+1,.cells [fv q.p])::(q.M,.cells x.c)::(q.lf,.cells [bl (m41 y)])::(q.P++[(q.s0.next+4,.cells [qbT tok (qfH log y)]),(q.s0.next+3,.cells [i64 (e41 y)]),(q.s0.next+2,.cells [.sl 0 [] .full]),(q.s0.next+1,.cells ZC),(q.s0.next,.cells (t41 t y).c)])) i hi hC ?_ ?_
  ·rw[hh];simp only[B41,zaH,zaF,zaJ]
  ·intro v hv
   simp only[zaI,zaA,zaD,or_false] at hv
   rcases hv with hv|rfl|rfl|rfl|rfl|hv|rfl|rfl|rfl|rfl|rfl
   ·have:=hp v hv;simp only at this;omega
   all_goals first|(have:=hP v hv;omega)|(simp only;omega)
theorem qxL (x:Vw)(t:Tm)(log:List Rw)(q:K41 ι)(y:Y41)(E H:qaR)(tk:Nat×List (Nat×Nat×Nat))(h:U41 fv C x t log q y E H tk):qdC E H q.M=some x.c/\q.M<q.M+3:=by
 obtain⟨_,_,tok,rfl,_⟩:=h
 exact⟨by rw[qfh (by omega),qfh (by omega),qk1],by omega⟩
theorem qxM (x:Vw)(t:Tm)(log:List Rw)(q:K41 ι)(y:Y41)(E H:qaR)(tk:Nat×List (Nat×Nat×Nat))(h:U41 fv C x t log q y E H tk):qdC E H (q.M+1)=some [fv q.p]/\q.M+1<q.M+3:=by
 obtain⟨_,_,tok,rfl,_⟩:=h
 exact⟨by rw[qfh (by omega),qk1],by omega⟩
end
end Go.AI.Tryz
namespace Go.AI.Tryz
theorem qwa (log:List Rw)(l:List Of):(qbz (qjE log) none l).1=match l with|[]=>none|o::_=>if log.length=2000 then some none else some (some o):=by
 cases l with
 |nil=>rfl
 |cons o r=>
  simp only[qbz,qjE]
  split<;>simp
def r41 (log:List Rw):List Of->Y41
 |[]=>none
 |o::_=>if log.length=2000 then some none else some (some o)
theorem qt6 (log:List Rw)(l:List Of):(qbz (qjE log) none l).1=r41 log l:=by
 rw[qwa];cases l<;>rfl
def qsO (a:Ar)(sm:Int->Bool)(m:Nat)(t:Tm)(log:List Rw):List Of->Tm×List Rw×Int
 |[]=>(t,log,0)
 |o::_=>if log.length=2000 then(.z,[],5) else qhB a sm m (qdV o.2.2 o.2.1 t) (log++[(o.1,o.2.1)])
theorem qeD (a:Ar)(sm:Int->Bool)(m:Nat)(t:Tm)(log:List Rw):qhB a sm (m+1) t log=qsO a sm m t log (qcO sm 0 (qbi t (qaB a))):=by
 rw[qhB];cases qcO sm 0 (qbi t (qaB a))<;>rfl
section
variable {ι:Type} {fv:ι->zA} {C:ι->qaR->ASt->Prop} {sm:Int->Bool}
abbrev ac (a:Ar):List zA:=[.p (.sl a.ids.length (qaQ Ty.cells a.ids)),bl a.root.cell,i64 a.root.n,bl a.jumps]
theorem qt7 {n:Nat}{E:qaR}(a:Ar)(p:ι)(s0 s:ASt)(t:Tm)(log:List Rw)(tok lf k:Nat)(P:qaR)(hP:∀v∈P,s0.next+5<=v.1)(hlf:s0.next+5<=lf)(hh:s.heap=(lf,.cells [bl false])::(P++B41 s0 t 0 (qbT tok log))):
  ∃s',lp (fun _ _ _ _ _ _=>none) (F41 (qag CP n E) n (ac a) s0.next (fv p) (s0.next+1) (s0.next+2) (s0.next+3) (s0.next+4)) (k+1) (.ptr lf 0) 0 0 [] [] s=some (.tuple [t.v,qbT tok log,i64 0],s'):=by
 let N:=s0.next
 let W:qaR:=(lf,.cells [bl false])::P
 let hp:zA->List zA->qaR:=fun c10 c8=>W++(N+4,.cells [qbT tok log])::(N+3,.cells [i64 0])::(N+2,.cells [c10])::(N+1,.cells c8)::(N,.cells t.c)::s0.heap
 have hW:∀v∈W,N+5<=v.1:=fun v hv=>by
  rcases zaA.1 hv with rfl|hv
  ·exact hlf
  ·exact hP v hv
 have h0:s.heap=hp (.sl 0 [] .full) ZC:=hh.trans rfl
 have hne:∀(T:qaR) (l:Nat),l<N+5->(∀v∈T,l<v.1)->∀v∈W++T,v.1≠l:=by
  intro T l hl hT v hv
  rw[zaI] at hv
  rcases hv with hv|hv
  ·have:=hW v hv;omega
  ·have:=hT v hv;omega
 have i3:∀c8 c10,hp c8 c10=(W++[(N+4,.cells [qbT tok log])])++(N+3,.cells [i64 0])::(N+2,.cells [c8])::(N+1,.cells c10)::(N,.cells t.c)::s0.heap:=fun _ _=>by simp only[hp,zaH,zaF,zaJ]
 have i2:∀c8 c10,hp c8 c10=(W++[(N+4,.cells [qbT tok log]),(N+3,.cells [i64 0])])++(N+2,.cells [c8])::(N+1,.cells c10)::(N,.cells t.c)::s0.heap:=fun _ _=>by simp only[hp,zaH,zaF,zaJ]
 have i1:∀c8 c10,hp c8 c10=(W++[(N+4,.cells [qbT tok log]),(N+3,.cells [i64 0]),(N+2,.cells [c8])])++(N+1,.cells c10)::(N,.cells t.c)::s0.heap:=fun _ _=>by simp only[hp,zaH,zaF,zaJ]
 have i0:∀c8 c10,hp c8 c10=(W++[(N+4,.cells [qbT tok log]),(N+3,.cells [i64 0]),(N+2,.cells [c8]),(N+1,.cells c10)])++(N,.cells t.c)::s0.heap:=fun _ _=>by simp only[hp,zaH,zaF,zaJ]
 have n4:∀v∈W,v.1≠N+4:=fun v hv=>by have:=hW v hv;omega
 have n3:∀v∈W++[(N+4,zH.cells [qbT tok log])],v.1≠N+3:=hne _ _ (by omega) (by intro v hv;simp only[zaA,zaD,or_false] at hv;subst hv;simp only;omega)
 have n2:∀v∈W++[(N+4,zH.cells [qbT tok log]),(N+3,.cells [i64 0])],v.1≠N+2:=hne _ _ (by omega) (by intro v hv;simp only[zaA,zaD,or_false] at hv;rcases hv with rfl|rfl<;>simp only<;>omega)
 have n1:∀c,∀v∈W++[(N+4,zH.cells [qbT tok log]),(N+3,.cells [i64 0]),(N+2,.cells [c])],v.1≠N+1:=fun c=>hne _ _ (by omega) (by intro v hv;simp only[zaA,zaD,or_false] at hv;rcases hv with rfl|rfl|rfl<;>simp only<;>omega)
 have n0:∀c d,∀v∈W++[(N+4,zH.cells [qbT tok log]),(N+3,.cells [i64 0]),(N+2,.cells [c]),(N+1,.cells d)],v.1≠N:=fun c d=>hne _ _ (by omega) (by intro v hv;simp only[zaA,zaD,or_false] at hv;rcases hv with rfl|rfl|rfl|rfl<;>simp only<;>omega)
 have c4:∀(s':ASt) c d,s'.heap=hp c d->qar (qag CP n E).E s' (N+4)=some [qbT tok log]:=fun s' c d h=>qcu h n4
 have c3:∀(s':ASt) c d,s'.heap=hp c d->qar (qag CP n E).E s' (N+3)=some [i64 0]:=fun s' c d h=>qcu (h.trans (i3 ..)) n3
 have c2:∀(s':ASt) c d,s'.heap=hp c d->qar (qag CP n E).E s' (N+2)=some [c]:=fun s' c d h=>qcu (h.trans (i2 ..)) n2
 have c1:∀(s':ASt) c d,s'.heap=hp c d->qar (qag CP n E).E s' (N+1)=some d:=fun s' c d h=>qcu (h.trans (i1 ..)) (n1 c)
 have c0:∀(s':ASt) c d,s'.heap=hp c d->qar (qag CP n E).E s' N=some t.c:=fun s' c d h=>qcu (h.trans (i0 ..)) (n0 c d)
 let sA:ASt:={s with heap:=hp (.sl 0 [] .full) t.c}
 let sB:ASt:={s with heap:=hp (qbT tok log) t.c}
 have w1:stH s (.ptr (N+1) 0) t.c=some sA:=by
  have:=qh7 (o:=0) (cs:=t.c) (new:=t.c) (h0.trans (i1 ..)) (n1 _) rfl rfl
  rw[<-i1] at this
  exact this
 have w2:stH sA (.ptr (N+2) 0) [qbT tok log]=some sB:=by
  have:=qh7 (s:=sA) (o:=0) (cs:=[qbT tok log]) (new:=[qbT tok log]) (i2 ..) n2 (qjC _ _) rfl
  rw[<-i2] at this
  exact this
 have w3:stH sB (.ptr (N+3) 0) [i64 0]=some sB:=by
  have:=qh7 (s:=sB) (o:=0) (cs:=[i64 0]) (new:=[i64 0]) (i3 ..) n3 rfl rfl
  rw[<-i3] at this
  exact this
 have one:∀v:zA,ldL [v] 0 none=some v:=fun _=>rfl
 have clf:qar (qag CP n E).E s lf=some [bl false]:=qaS hh
 have lg:∀(s':ASt) c d,s'.heap=hp c d->loadFrom (qag CP n E).E .nil s' (.ptr (N+4) 0) 1=some [qbT tok log]:=fun s' c d h=>by
  simp only[loadFrom,c4 s' c d h,zaa]
  rfl
 refine⟨sB,?_⟩
 rw[qa6]
 generalize lp _ _ k=L
 unfold F41
 have c0':qar (qag CP n E).E s s0.next=some t.c:=c0 s _ _ h0
 have c4':qar (qag CP n E).E s (s0.next+4)=some [qbT tok log]:=c4 s _ _ h0
 have c1B:qar (qag CP n E).E sB (s0.next+1)=some t.c:=c1 sB _ _ rfl
 have c2B:qar (qag CP n E).E sB (s0.next+2)=some [qbT tok log]:=c2 sB _ _ rfl
 have c3B:qar (qag CP n E).E sB (s0.next+3)=some [i64 0]:=c3 sB _ _ rfl
 have w1':stH s (.ptr (s0.next+1) 0) t.c=some sA:=w1
 have w2':stH sA (.ptr (s0.next+2) 0) [qbT tok log]=some sB:=w2
 have w3':stH sB (.ptr (s0.next+3) 0) [i64 0]=some sB:=w3
 have lg1:loadFrom (qag CP n E).E .nil s (.ptr (s0.next+4) 0) 1=some [qbT tok log]:=lg s _ _ h0
 have lg2:loadFrom (qag CP n E).E .nil sA (.ptr (s0.next+4) 0) 1=some [qbT tok log]:=lg sA _ _ rfl
 simp only[ldP clf,one,ldP c0',ldP c4',qhz,w1',w2',w3',ldP c1B,ldP c2B,ldP c3B,lg1,lg2,qrX,qby,zat,qah,qaU,qaa,cond_false,qaj,zaa,cnd]
theorem qnq (a:Ar)(h1:a.ids.length<=100000)(hfa:∀p,qaY (fv p)=true)(hfw:∀p,qbF (fv p)=true)(hfe:∀p,qaD (fv p)=fv p)(hfc:∀p,zA.cells none (fv p)=some [fv p])(hsm:Ev fun n=>SmH fv C sm n):
  ∀(m:Nat) (t:Tm) (log:List Rw),1≤m→log.length+m=2001→Right a t→t.size≤100000→
   Ev fun n=>∀p E (s0 s:ASt) (tok lf k:Nat) (P:qaR),C p E s0->(∀v∈P,s0.next+5<=v.1)->s0.next+5<=lf->lf<s.next->s.heap=(lf,.cells [bl true])::(P++B41 s0 t 0 (qbT tok log))->ql4 (qnd s) tok log->m+2<=k->
    ∃r s',lp (fun _ _ _ _ _ _=>none) (F41 (qag CP n E) n (ac a) s0.next (fv p) (s0.next+1) (s0.next+2) (s0.next+3) (s0.next+4)) k (.ptr lf 0) 0 0 [] [] s=some (r,s')/\qaD r=qfj (qhB a sm m t log)
 |0,t,log,h,hm,ht,hs=>absurd h (by omega)
 |m+1,t,log,_,hm,ht,hs=>by
  have hnd:=ht.nd h1 hs
  let x:=vw (qaB a) t
  let l:=qcO sm 0 (qbi t (qaB a))
  have hoff:=qp5 (κ:=K41 ι) (N0:=fun q=>q.M+3) (l4:=fun q=>q.M) (l7:=fun q=>q.M+1) (yv:=fun q=> .yield (q.M+2)) (someV:=fun q=>fv q.p) (U:=U41 fv C x t log) (st:=qjE log) (sm:=sm) (OS:=fun u=>u.size<=100000) (live:=fun _ y=>y=none) hnd (by omega) (fun m y h=>h) (fun _=>rfl) (fun _=>rfl) (fun _=>rfl) (fun _=>rfl) (qxM x t log) (qxL x t log) (qqk ht.c ht.ok h1 hs (qo2 a t)) (qt5 fv C x t log hs (by omega)) (qv9 x t log hsm)
  have hof:=qp6 (ι:=ι) x fv hfa hfw hfe hfc
  have IH:Ev fun n=>∀o r,l=o::r->log.length≠2000->∀p E (s0 s:ASt) (tok lf k:Nat) (P:qaR),C p E s0->(∀v∈P,s0.next+5<=v.1)->s0.next+5<=lf->lf<s.next->s.heap=(lf,.cells [bl true])::(P++B41 s0 (qdV o.2.2 o.2.1 t) 0 (qbT tok (log++[(o.1,o.2.1)])))->ql4 (qnd s) tok (log++[(o.1,o.2.1)])->m+2<=k->
    ∃r s',lp (fun _ _ _ _ _ _=>none) (F41 (qag CP n E) n (ac a) s0.next (fv p) (s0.next+1) (s0.next+2) (s0.next+3) (s0.next+4)) k (.ptr lf 0) 0 0 [] [] s=some (r,s')/\qaD r=qfj (qhB a sm m (qdV o.2.2 o.2.1 t) (log++[(o.1,o.2.1)])):=by
   cases hl:l with
   |nil=>exact Ev.of fun n o r h=>nomatch h
   |cons o r=>
    by_cases h20:log.length=2000
    ·exact Ev.of fun n o' r' _ h=>absurd h20 h
    have hst:=qmb (o:=o) (sm:=sm) ht h1 hs (by show o∈l;rw[hl];exact zau ..)
    refine(qnq a h1 hfa hfw hfe hfc hsm m (qdV o.2.2 o.2.1 t) (log++[(o.1,o.2.1)]) (by omega) (by simp only[zaw,zar,zaB];omega) hst.1 (by have:=hst.2;omega)).mono fun n h o' r' e _=>?_
    simp only[zbo] at e
    obtain⟨rfl,_⟩:=e
    exact h
  refine(((qsK a t h1).and hof).and (hoff.and (IH.and (Ev.ge 1)))).mono fun n ⟨⟨hl,hof⟩,hoff,IH,hn⟩ p E s0 s tok lf k P hC hP hlf hlt hh hok hk=>?_
  obtain⟨k,rfl⟩:∃k',k=k'+1:=⟨k-1,by omega⟩
  let R:=(qbz (qjE log) none l).1
  have hR:R=r41 log l:=qt6 log l
  let s34:ASt:={s with heap:=(lf,.cells [bl false])::(P++B41 s0 t 0 (qbT tok log))}
  let M:=s.next
  let s40:=qal (qal s34 (.cells x.c)) (.cells [fv p])
  have hres:qhB a sm (m+1) t log=qsO a sm m t log l:=qeD a sm m t log
  suffices F41 (qag CP n E) n (ac a) s0.next (fv p) (s0.next+1) (s0.next+2) (s0.next+3) (s0.next+4) (lp (fun _ _ _ _ _ _=>none) (F41 (qag CP n E) n (ac a) s0.next (fv p) (s0.next+1) (s0.next+2) (s0.next+3) (s0.next+4)) k) (.ptr lf 0) 0 0 [] [] s=some (qfj (qhB a sm (m+1) t log),s40) from⟨_,s40,(by rw[qa6];exact this),qqm _⟩
  have hrf:∀(F:FL) (L:LL) (kn kx kr:ASt->Res),qas F 4=some (.ptr s0.next 0)->qas F 6=some (.ptr (s0.next+1) 0)->qas F 7=some (.ptr (s0.next+2) 0)->qas F 8=some (.ptr (s0.next+3) 0)->qas F 9=some (.ptr (s0.next+4) 0)->qas F 10=some (.ptr lf 0)->(∃p,qas L 1=some p)->(∃p,qas L 2=some p)->
    (∀(s':ASt) (P1:qaR) (tok':Nat),s'.heap=P1++(lf,.cells [bl (m41 R)])::(P++B41 s0 (t41 t R) (e41 R) (qbT tok' (qfH log R)))->(∀v∈P1,lf<v.1)->lf<s'.next->ql4 (qnd s') tok' (qfH log R)->∃s2 r',qaD r'=qfj (qhB a sm (m+1) t log)/\(match R with|none=>kn s'=some (r',s2)|some none=>kr s'=some (r',s2)|some (some _)=>kx s'=some (r',s2)))->
    qpg (qag CP n E) n 63 (.func 94 [] [.ptr M 0,.ptr (M+1) 0]) [21,22] ra41 rb41 F L s40 kn kx kr (qfj (qhB a sm (m+1) t log)):=by
   intro F L kn kx kr hF4 hF6 hF7 hF8 hF9 hF10 ⟨p1,hL1⟩ ⟨p2,hL2⟩ hkn
   refine qxI hn fun fr lo hF hh' hlo hL=>?_
   let LP:Y41->zH:=fun y=> .loop (qow (x41 y)) (qeS (x41 y)) fr lo [21,22] ra41 rb41
   have hU:U41 fv C x t log ⟨p,fr,lo,M,lf,P,s0⟩ none E (qal s40 (LP none)).heap (qnd (qal s40 (LP none))):=⟨⟨hF 4 _ hF4,hF 6 _ hF6,hF 7 _ hF7,hF 8 _ hF8,hF 9 _ hF9,hF 10 _ hF10,hh',hlo,hL 1 _ hL1,hL 2 _ hL2⟩,⟨hC,hP,hlf,hlt⟩,tok,rfl,hok⟩
   obtain⟨s',pre',H',e1,e2,e3,e4,⟨_,_,tok',hH',hok'⟩⟩:=hoff ⟨p,fr,lo,M,lf,P,s0⟩ none E (qal s40 (LP none)) (zan _) hU rfl
   have hR':(qbz (qjE log) none (qcO sm 0 (qbi t (qaB a)))).1=R:=rfl
   rw[hR'] at hH' hok'
   subst hH'
   simp only at e2 e3
   obtain⟨s2,r',her,hk⟩:=hkn {s' with heap:=pre'++(s40.next,.gone)::(M+1,.cells [fv p])::(M,.cells x.c)::(lf,.cells [bl (m41 R)])::(P++B41 s0 (t41 t R) (e41 R) (qbT tok' (qfH log R)))}
    (pre'++[(s40.next,.gone),(M+1,.cells [fv p]),(M,.cells x.c)]) tok' (by simp only[zaH,zaF,zaJ]) (by
    intro v hv
    simp only[zaI,zaA,zaD,or_false] at hv
    rcases hv with hv|rfl|rfl|rfl
    ·have:=e3 v hv;show lf<v.1;omega
    ·show lf<s.next+1+1;omega
    ·show lf<s.next+1;omega
    ·show lf<s.next;omega) (by show lf<s'.next;rw[e4];show lf<s.next+1+1+1+3;omega) hok'
   refine⟨x41 R,s',pre',_,s2,r',e1,e2,fun v hv=>by have:=e3 v hv;show v.1≠s.next+1+1;omega,her,?_⟩
   generalize R=R' at hk⊢
   match R' with
   |none=>exact hk
   |some none=>exact hk
   |some (some o)=>exact⟨rfl,hk⟩
  have c6:qar (qag CP n E).E s34 s0.next=some t.c:=by
   refine qcu (pre:=((lf,.cells [bl false])::P)++[(s0.next+4,.cells [qbT tok log]),(s0.next+3,.cells [i64 0]),(s0.next+2,.cells [.sl 0 [] .full]),(s0.next+1,.cells ZC)]) (H:=s0.heap) (by simp only[s34,B41,zaH,zaF,zaJ]) ?_
   intro v hv
   simp only[zaI,zaA,zaD,or_false] at hv
   rcases hv with(rfl|hv)|rfl|rfl|rfl|rfl
   ·simp only;omega
   ·have:=hP v hv;omega
   all_goals simp only;omega
  have clf:qar (qag CP n E).E s lf=some [bl true]:=qaS hh
  have wlf:stH s (.ptr lf 0) [bl false]=some s34:=qqT hh rfl rfl
  have hl':∀E s,cl (qag CP n E) 65 [a.v,t.v] s=some (x.v,s):=hl
  have ho':cl (qag CP n E) 54 [x.v,fv p] s34=some (.func 94 [] [.ptr M 0,.ptr (M+1) 0],s40):=hof p E s34
  have one:∀v:zA,ldL [v] 0 none=some v:=fun _=>rfl
  generalize hLP:lp (fun _ _ _ _ _ _=>none) (F41 (qag CP n E) n (ac a) s0.next (fv p) (s0.next+1) (s0.next+2) (s0.next+3) (s0.next+4)) k=LPk
  unfold F41
  simp only[ldP clf,one,qbU,wlf,qhJ,ldP c6,hl',ho',qaU,qaa,cond_true,qaj,zaa,qab,cnd]
  refine qv0 6 2 ?_ (by omega) ?_ (hrf _ _ _ _ _ rfl rfl rfl rfl rfl rfl ⟨_,rfl⟩ ⟨_,rfl⟩ fun s' P1 tok' hh' hP1 hlt' hok'=>?_)
  ·intro p hp
   simp only[zaA,zaD,or_false] at hp
   rcases hp with rfl|rfl|rfl|rfl|rfl|rfl|rfl|rfl|rfl|rfl|rfl|rfl|rfl|rfl<;>simp only<;>omega
  ·intro p hp
   simp only[zaA,zaD,or_false] at hp
   rcases hp with rfl|rfl|rfl|rfl<;>simp only<;>omega
  ·have hfz:zA.cells none (.sl 0 [] .full)=some [.sl 0 [] .full]:=rfl
   have hj:∀b,qar (qag CP n E).E s' lf=some [bl b]->∃s2,s41_0 (qag CP n E) n (.ptr lf 0) LPk 0 0 [] [] s'=LPk (.ptr s'.next 0) 0 0 [] [] s2/\s2=qal s' (.cells [bl b]):=by
    intro b hb
    have hst:stH (qal s' (.cells [bl false])) (.ptr s'.next 0) [bl b]=some (qal s' (.cells [bl b])):=qjv _ _ _ _ _ rfl rfl
    refine⟨_,?_,rfl⟩
    unfold s41_0
    simp only[ldP hb,one,qbU,hst,zaa,qa3]
   have hcf:qar (qag CP n E).E s' lf=some [bl (m41 R)]:=qcu hh' (fun v hv=>by have:=hP1 v hv;omega)
   have hP2:∀b,∀v∈P1++(lf,zH.cells [bl b])::P,s0.next+5<=v.1:=by
    intro b v hv
    simp only[zaI,zaA] at hv
    rcases hv with hv|rfl|hv
    ·have:=hP1 v hv;omega
    ·exact hlf
    ·exact hP v hv
   rw[hres]
   obtain⟨s2,j1,j2⟩:=hj _ hcf
   rw[hR] at hcf hh' hok' j2⊢
   cases hll:l with
   |nil=>
    rw[hll] at hh' hok' j2
    obtain⟨s3,e3⟩:=qt7 (fv:=fv) (n:=n) (E:=E) a p s0 s2 t log tok' s'.next (k-1) (P1++(lf,.cells [bl false])::P) (hP2 false) (by omega) (by rw[j2];show(s'.next,zH.cells [bl false])::s'.heap=_;rw[hh'];simp only[r41,m41,t41,e41,qfH,zaH,zaF])
    refine⟨s3,_,qv8 _ tok' _ _,?_⟩
    show s41_0 (qag CP n E) n (.ptr lf 0) LPk 0 0 [] [] s'=_
    rw[j1,<-hLP,show k=k-1+1 by omega]
    exact e3
   |cons o r=>
    rw[hll] at hh' hok' j2
    by_cases h20:log.length=2000
    ·have hr:r41 log (o::r)=some none:=if_pos h20
     rw[hr] at hh'⊢
     have ha:qsO a sm m t log (o::r)=(.z,[],5):=if_pos h20
     rw[ha]
     refine⟨s',.tuple [.agg [u8 0,i64 0,i64 0,i64 0,.sl 0 [] .full],.sl 0 [] .full,i64 5],rfl,?_⟩
     have q8:qar (qag CP n E).E s' (s0.next+1)=some ZC:=by
      refine qcu (pre:=(P1++(lf,.cells [bl false])::P)++[(s0.next+4,.cells [qbT tok' log]),(s0.next+3,.cells [i64 5]),(s0.next+2,.cells [.sl 0 [] .full])]) (H:=(s0.next,.cells t.c)::s0.heap) (by rw[hh'];simp only[m41,t41,e41,qfH,B41,zaH,zaF,zaJ]) ?_
      intro v hv
      rw[zaI] at hv
      rcases hv with hv|hv
      ·have:=hP2 false v hv;omega
      ·simp only[zaA,zaD,or_false] at hv
       rcases hv with rfl|rfl|rfl<;>simp only<;>omega
     have q10:qar (qag CP n E).E s' (s0.next+2)=some [.sl 0 [] .full]:=by
      refine qcu (pre:=(P1++(lf,.cells [bl false])::P)++[(s0.next+4,.cells [qbT tok' log]),(s0.next+3,.cells [i64 5])]) (H:=(s0.next+1,.cells ZC)::(s0.next,.cells t.c)::s0.heap) (by rw[hh'];simp only[m41,t41,e41,qfH,B41,zaH,zaF,zaJ]) ?_
      intro v hv
      rw[zaI] at hv
      rcases hv with hv|hv
      ·have:=hP2 false v hv;omega
      ·simp only[zaA,zaD,or_false] at hv
       rcases hv with rfl|rfl<;>simp only<;>omega
     have q12:qar (qag CP n E).E s' (s0.next+3)=some [i64 5]:=by
      refine qcu (pre:=(P1++(lf,.cells [bl false])::P)++[(s0.next+4,.cells [qbT tok' log])]) (H:=(s0.next+2,.cells [.sl 0 [] .full])::(s0.next+1,.cells ZC)::(s0.next,.cells t.c)::s0.heap) (by rw[hh'];simp only[m41,t41,e41,qfH,B41,zaH,zaF,zaJ]) ?_
      intro v hv
      rw[zaI] at hv
      rcases hv with hv|hv
      ·have:=hP2 false v hv;omega
      ·simp only[zaA,zaD,or_false] at hv
       subst hv;simp only;omega
     have hzl:ldL ZC 0 (some 5)=some (.agg [u8 0,i64 0,i64 0,i64 0,.sl 0 [] .full]):=rfl
     show((ldH (qag CP n E) s' (.ptr (s0.next+1) 0) (some 5)).bind fun x55=>_)=_
     simp only[ldP q8,ldP q10,ldP q12,hzl,one,zaa]
    ·have hr:r41 log (o::r)=some (some o):=if_neg h20
     rw[hr] at hh' hok' j2⊢
     have ha:qsO a sm m t log (o::r)=qhB a sm m (qdV o.2.2 o.2.1 t) (log++[(o.1,o.2.1)]):=if_neg h20
     rw[ha]
     obtain⟨r',s3,e3,her⟩:=IH o r hll h20 p E s0 s2 tok' s'.next k (P1++(lf,.cells [bl true])::P) hC (hP2 true) (by omega) (by rw[j2];exact zbe _) (by rw[j2];show(s'.next,zH.cells [bl true])::s'.heap=_;rw[hh'];simp only[m41,t41,e41,qfH,zaH,zaF]) (by rw[j2];exact hok') (by omega)
     refine⟨s3,r',her,?_⟩
     show s41_0 (qag CP n E) n (.ptr lf 0) LPk 0 0 [] [] s'=_
     rw[j1,<-hLP]
     exact e3
end
end Go.AI.Tryz
namespace Go.AI.Tryz
section
variable {ι:Type} {fv:ι->zA} {C:ι->qaR->ASt->Prop} {sm:Int->Bool}
theorem qwb (a:Ar)(t:Tm)(ht:Right a t)(h1:a.ids.length<=100000)(hs:t.size<=100000)(hS:∀p,Stab (C p))(hfa:∀p,qaY (fv p)=true)(hfw:∀p,qbF (fv p)=true)(hfe:∀p,qaD (fv p)=fv p)(hfc:∀p,zA.cells none (fv p)=some [fv p])(hsm:Ev fun n=>SmH fv C sm n):
  UC 41 (fun p=>[a.v,t.v,fv p]) C (fun _=>qfj (qhB a sm 2001 t [])):=by
 refine UC.of (cf:=cf41) (np:=3) (by kernel_rfl) (by kernel_rfl) (fun _=>rfl) (fun p=>by simp only[zap,qak,hfw];rfl) (fun p=>by simp only[zam,qai,hfe];rfl) hS (fun p lo=>qk6 lo _)
  (((qnq a h1 hfa hfw hfe hfc hsm 2001 t [] (by omega) rfl ht hs).and ((qrL t (by omega)).and (Ev.ge 2003))).mono fun n ⟨hl,hcp,hn⟩ p E s hC=>?_)
 let B:qaR:=B41 s t 0 (.sl 0 [] .full)
 let s20:ASt:=qal (qal (qal (qal (qal s (.cells t.c)) (.cells ZC)) (.cells [.sl 0 [] .full])) (.cells [i64 0])) (.cells [.sl 0 [] .full])
 let s24:=qal s20 (.cells [bl true])
 obtain⟨r,s',e,her⟩:=hl p E s s24 0 (s.next+5) n [] hC (fun v hv=>by cases hv) (zan _) (zbe _) rfl (fun h=>absurd rfl h) hn
 refine⟨r,s',(s41_eq _ _ _ _ _ _).trans ?_,her⟩
 have hc6:qar (qag CP n E).E (qal (qal (qal (qal (qal s (.cells t.c)) (.cells [u8 0,i64 0,i64 0,i64 0,.sl 0 [] .full])) (.cells [.sl 0 [] .full])) (.cells [i64 0])) (.cells [.sl 0 [] .full])) s.next=some t.c:=by
  show qar _ s20 s.next=_
  rw[qbx (s:=s20) rfl (by show s.next+1+1+1+1≠s.next;omega),qbx rfl (by show s.next+1+1+1≠s.next;omega),qbx rfl (by show s.next+1+1≠s.next;omega),qbx rfl (by show s.next+1≠s.next;omega)]
  exact qaS rfl
 have w6:stH (qal (qal (qal (qal (qal s (.cells t.c)) (.cells [u8 0,i64 0,i64 0,i64 0,.sl 0 [] .full])) (.cells [.sl 0 [] .full])) (.cells [i64 0])) (.cells [.sl 0 [] .full])) (.ptr s.next 0) t.c=some s20:=by
  refine(qh7 (s:=s20) (pre:=[(s.next+1+1+1+1,.cells [.sl 0 [] .full]),(s.next+1+1+1,.cells [i64 0]),(s.next+1+1,.cells [.sl 0 [] .full]),(s.next+1,.cells ZC)]) (H:=s.heap) (l:=s.next) (o:=0) (zs:=t.c) (cs:=t.c) (new:=t.c) rfl ?_ rfl rfl).trans rfl
  intro v hv
  simp only[zaA,zaD,or_false] at hv
  rcases hv with rfl|rfl|rfl|rfl<;>simp only<;>omega
 have w21:stH (qal s20 (.cells [bl false])) (.ptr s20.next 0) [bl true]=some s24:=qjv _ _ _ _ _ rfl rfl
 unfold s41
 simp only[qcQ,hcp,ldP hc6,w6,w21,qbU,qah,qaU,qvD,zaa,qab,qa3,cnd]
 rw[lp41]
 exact e
end
theorem qrY:Ev fun n=>SmH (ι:=Unit) (fun _=> .p (.func 42 [] [])) (fun _ _ _=>True) qcx n:=
 (every_u.and (Ev.ge 1)).mono fun n ⟨h,hn⟩ p E s0 s pre i _ _ _ _=>by
  rw[qgk CP hn]
  exact h (.ofNat (i+1)) E s trivial
def qqU (a:Ar)(t:Tm):Tm×List Rw×Int:=if qbN a t=0 then qhB a qcx 2001 t [] else(.z,[],qbN a t)
theorem qt8 (a:Ar)(t:Tm)(oa:a.Ok)(ok:t.Ok)(h1:a.ids.length<=100000)(hs:t.size<=100000):PC CP 13 [a.v,t.v] (qfj (qqU a t)):=by
 unfold qqU
 by_cases hc:qbN a t=0
 ·rw[if_pos hc]
  refine PC.of2 (cf:=cf13) (np:=2) (args':=[a.v,t.v]) (by kernel_rfl) (by kernel_rfl) rfl (by simp only[zap,qak];rfl) (by simp only[zam,qai];rfl) (fun lo=>qk6 lo _)
   (((qnf a t oa ok h1 hs).and (qwb a t ⟨hc,ok⟩ h1 hs (fun _=>Stab.true) (fun _=>rfl) (fun _=>rfl) (fun _=>rfl) (fun _=>rfl) qrY)).mono fun n ⟨hl,hd⟩ E s=>⟨qfj (qhB a qcx 2001 t []),s,(s13_eq _ _ _ _ _).trans ?_,qqm _⟩)
  rw[hc] at hl
  have hd':cl (qag CP n E) 41 [a.v,t.v,.p (.func 42 [] [])] s=some (qfj (qhB a qcx 2001 t []),s):=hd () E s trivial
  have l30:∀a b c:zA,qeP [a,b,c] 0=some a:=fun _ _ _=>rfl
  have l31:∀a b c:zA,qeP [a,b,c] 1=some b:=fun _ _ _=>rfl
  have x2:∀a b c:zA,ex (.tuple [a,b,c]) 2=some c:=fun _ _ _=>rfl
  unfold s13
  simp only[qcQ,qhJ,hl,hd',l30,l31,x2,qah,qaU,qav,qaH,qju,qad,qa1,decide_true,zak,qaa,cond_false,zab,zaa,qab,qan,qax,qay]
 ·rw[if_neg hc]
  refine PC.of2 (cf:=cf13) (np:=2) (args':=[a.v,t.v]) (by kernel_rfl) (by kernel_rfl) rfl (by simp only[zap,qak];rfl) (by simp only[zam,qai];rfl) (fun lo=>qk6 lo _)
   ((qnf a t oa ok h1 hs).mono fun n hl E s=>⟨.tuple [.agg [u8 0,i64 0,i64 0,i64 0,.sl 0 [] .full],.sl 0 [] .full,i64 (qbN a t)],s,(s13_eq _ _ _ _ _).trans ?_,rfl⟩)
  unfold s13
  simp only[qcQ,qhJ,hl,hc,zbd,qql,qx7,qv7,qah,qaU,qaH,qju,qad,qa1,decide_false,zal,qaa,cond_true,zab,zaa,qab,qan,qax,qay]
end Go.AI.Tryz
namespace Go.AI.Tryz
def u8C (n:Int):List zP:=[.int .u8 n]
abbrev u8s (l:List Int):zA:=.p (.sl l.length (qaQ u8C l))
theorem qqn (rs:List Int)(hl:rs.length<=1000000):UC 67 (fun k:Int=>[u8s rs,u8 k]) (fun _ _ _=>True) (fun k=>i64 (qbo (fun r=>decide (k=r)) rs 0)):=by
 refine UC.of (cf:=cf67) (np:=2) (by kernel_rfl) (by kernel_rfl) (fun _=>rfl) (fun _=>rfl) (fun _=>rfl) (fun _=>Stab.true) (fun _ _=>rfl) ((Ev.ge (rs.length+1)).mono fun n hn k E s _=>⟨i64 (qbo (fun r=>decide (k=r)) rs 0),s,(s67_eq _ _ _ _ _).trans ?_,rfl⟩)
 unfold s67
 simp only[zaa,qbq]
 unfold s67_0
 generalize hF:(fun(h5:zA->Res) (x4:zA)=>_)=F
 refine qck _ F rs.length (fun j L=>L (i64 (.ofNat j))) (fun j=>some (i64 (qbo (fun r=>decide (k=r)) rs j),s)) (fun j L hj ih=>?_) (fun L=>?_) n 0 (zaY _) (by omega)
 ·subst hF
  have hk:rs[j]? =some rs[j]:=zah hj
  have hld:=qeu (c:=u8C) (sz:=1) (fun _=>rfl) (qag CP n E) s hk (by omega)
  have hu:(u8C rs[j])[0]?.map zA.p=some (u8 rs[j]):=rfl
  rw[hu] at hld
  have hdr:rs.drop j=rs[j]::rs.drop (j+1):=zaz hj
  simp only[of_lt.2 hj,qbR hj,hld,qaN (show j<9223372036854775807 by omega),qad,qaf,qao,qaw,decide_true,qaa,cond_true,zab,zaa,qab]
  cases hb:decide (k=rs[j]) with
  |true=>
   simp only[cond_true,qbo,hdr,List.findIdx?_cons,hb,if_true,zbk]
  |false=>
   simp only[cond_false]
   rw[ih]
   simp only[qbo,hdr,List.findIdx?_cons,hb,if_false,zai]
   cases(rs.drop (j+1)).findIdx? fun r=>decide (k=r) with
   |none=>rfl
   |some i=>
    simp only[zab]
    rw[show j+1+i=j+(i+1) by omega]
 ·subst hF
  have h3:¬(Int.ofNat rs.length<Int.ofNat rs.length):=fun h=>zaX _ (of_lt.1 h)
  simp only[h3,qbo,zbb,List.findIdx?_nil,qad,qao,qaw,decide_false,qaa,cond_false,zab,zaa]
def qci (rs:List Int):Int->Bool:=fun k=>rs.any fun r=>decide (k=r)
theorem qk7 (rs:List Int)(hl:rs.length<=1000000):UC 45 (fun k:Int=>[u8s rs,u8 k]) (fun _ _ _=>True) (fun k=>bl (qci rs k)):=by
 refine UC.of (cf:=cf45) (np:=2) (by kernel_rfl) (by kernel_rfl) (fun _=>rfl) (fun _=>rfl) (fun _=>rfl) (fun _=>Stab.true) (fun _ _=>rfl) ((qqn rs hl).mono fun n h k E s _=>⟨bl (qci rs k),s,(s45_eq _ _ _ _ _).trans ?_,rfl⟩)
 have h':=h k E s trivial
 simp only at h'
 have:(!decide (qbo (fun r=>decide (k=r)) rs 0<0))=qci rs k:=by
  unfold qci
  have:=qjr (fun r=>decide (k=r)) rs
  rw[Bool.eq_iff_iff,<-this]
  simp only[za0,decide_eq_false_iff_not,Int.not_lt]
 unfold s45
 simp only[h',qa7,this,qad,qa7,zab,zaa,qab]
theorem qrZ (rs:List Int)(hl:rs.length<=1000000):UC 44 (fun p:Int×Nat=>[u8 p.1,.ptr p.2 0]) (fun p E s=>qar E s p.2=some [u8s rs]) (fun p=>bl (qci rs p.1)):=by
 refine UC.of (cf:=cf44) (np:=2) (by kernel_rfl) (by kernel_rfl) (fun _=>rfl) (fun _=>rfl) (fun _=>rfl) (fun p=>Stab.at p.2 _) (fun _ _=>rfl) ((qk7 rs hl).mono fun n h p E s hc=>⟨bl (qci rs p.1),s,(s44_eq _ _ _ _ _).trans ?_,rfl⟩)
 have hc':qar (qag CP n E).E s p.2=some [u8s rs]:=by rw[qa9];exact hc
 have h':=fun s=>h p.1 E s trivial
 have one:∀v:zA,ldL [v] 0 none=some v:=fun _=>rfl
 simp only at h'
 unfold s44
 simp only[ldP hc',one,h',zaa,qab]
theorem qt9 (rs:List Int)(hl:rs.length<=1000000):Ev fun n=>SmH (ι:=Nat) (fun l=> .func 44 [] [.ptr l 0]) (fun l E s=>qar E s l=some [u8s rs]/\l<s.next) (qci rs) n:=
 ((qrZ rs hl).and (Ev.ge 1)).mono fun n ⟨h,hn⟩ l E s0 s pre i _ hC hh hp=>by
  rw[qh0 CP hn]
  refine h (.ofNat (i+1),l) E s ?_
  have:=qfg (E:=E) hh (l:=l) (fun v hv=>by have:=hp v hv;have:=hC.2;omega)
  rw[this]
  exact hC.1
def qf7 (a:Ar)(t:Tm)(rs:List Int):Tm×List Rw×Int:=if qbN a t=0 then qhB a (qci rs) 2001 t [] else(.z,[],qbN a t)
theorem qr0 (a:Ar)(t:Tm)(rs:List Int)(w:zA)(hw:qaD w=u8s rs)(hwa:qbF w=true)(hl:rs.length<=1000000)(oa:a.Ok)(ok:t.Ok)(h1:a.ids.length<=100000)(hs:t.size<=100000):PC CP 17 [a.v,t.v,w] (qfj (qf7 a t rs)):=by
 have x2:∀a b c:zA,ex (.tuple [a,b,c]) 2=some c:=fun _ _ _=>rfl
 have l30:∀a b c:zA,qeP [a,b,c] 0=some a:=fun _ _ _=>rfl
 have l31:∀a b c:zA,qeP [a,b,c] 1=some b:=fun _ _ _=>rfl
 have hrc:zA.cells none (u8s rs)=some [u8s rs]:=rfl
 have hra:[u8s rs].all qaY=true:=rfl
 unfold qf7
 by_cases hc:qbN a t=0
 ·rw[if_pos hc]
  refine PC.of2 (cf:=cf17) (np:=3) (args':=[a.v,t.v,u8s rs]) (by kernel_rfl) (by kernel_rfl) rfl (by simp only[zap,qak,hwa];rfl) (by simp only[zam,qai,hw];rfl) (fun lo=>qk6 lo _)
   (((qnf a t oa ok h1 hs).and (qwb a t ⟨hc,ok⟩ h1 hs (fun l=>fun E s h=>⟨Stab.at l _ E s h.1,h.2⟩) (fun _=>rfl) (fun _=>rfl) (fun _=>rfl) (fun _=>rfl) (qt9 rs hl))).mono fun n ⟨hlk,hd⟩ E s=>⟨qfj (qhB a (qci rs) 2001 t []),qal s (.cells [u8s rs]),(s17_eq _ _ _ _ _ _).trans ?_,qqm _⟩)
  rw[hc] at hlk
  have hd':cl (qag CP n E) 41 [a.v,t.v,.func 44 [] [.ptr s.next 0]] (qal s (.cells [u8s rs]))=some (qfj (qhB a (qci rs) 2001 t []),qal s (.cells [u8s rs])):=hd s.next E _ ⟨qaO _ _ _,zbe _⟩
  unfold s17
  simp only[qcQ,qhJ,hlk,hrc,hra,hd',l30,l31,x2,qah,qaU,qav,qaH,qju,qad,qa1,decide_true,zak,qaa,cond_false,zab,zaa,qab,qan,qax,qay,qa3,qbw,cnd]
 ·rw[if_neg hc]
  refine PC.of2 (cf:=cf17) (np:=3) (args':=[a.v,t.v,u8s rs]) (by kernel_rfl) (by kernel_rfl) rfl (by simp only[zap,qak,hwa];rfl) (by simp only[zam,qai,hw];rfl) (fun lo=>qk6 lo _)
   ((qnf a t oa ok h1 hs).mono fun n hlk E s=>⟨.tuple [.agg [u8 0,i64 0,i64 0,i64 0,.sl 0 [] .full],.sl 0 [] .full,i64 (qbN a t)],qal s (.cells [u8s rs]),(s17_eq _ _ _ _ _ _).trans ?_,rfl⟩)
  unfold s17
  simp only[qcQ,qhJ,hlk,hrc,hra,hc,zbd,qql,qx7,qv7,qah,qaU,qaH,qju,qad,qa1,decide_false,zal,qaa,cond_true,zab,zaa,qab,qan,qax,qay,qa3,qbw,cnd]
end Go.AI.Tryz
namespace Go.AI.Tryz
def rulL:List Int:=ruL.map fun j=>Int.ofNat (j+1)
theorem rules22_c:PC CP 22 [] (u8s rulL):=by
 let f:Nat->List zP:=fun j=>qaQ u8C (rulL.take j)
 refine PC.of2 (cf:=cf22) (np:=0) (args':=[]) (by kernel_rfl) (by kernel_rfl) rfl rfl rfl (fun _=>rfl) ((Ev.ge 23).mono fun n hn E s=>⟨qb0 f s.ntok 22,qc6 s 1 22,(s22_eq _ _ _).trans ?_,?_⟩)
 ·unfold s22 s22_0
  generalize hF:(fun(h4:zA->zA->ASt->Res) (x1 x2:zA) (s3:ASt)=>_)=F
  refine qck _ F 22 (fun j L=>L (qb0 f s.ntok j) (u8 (.ofNat (j+1))) (qc6 s 1 j)) (fun j=>some (qb0 f s.ntok 22,qc6 s 1 22)) (fun j L hj ih=>?_) (fun L=>?_) n 0 (zaY _) (by omega)
  ·subst hF
   have hjl:j<rulL.length:=hj
   have hje:rulL[j]=Int.ofNat (j+1):=by
    have h1:rulL[j]? =some (Int.ofNat (j+1)):=by
     unfold rulL
     rw[za9,qf5 hj];rfl
    rw[zah hjl] at h1
    exact Option.some.inj h1
   have hap:=qeV (qag CP n E) (sz:=1) (b:=1) (f:=f) (y:=.sl 1 (u8C (.ofNat (j+1))) .full) s j rfl rfl (by omega) (by
    have:=qbQ (c:=u8C) hjl
    rw[hje] at this
    exact this)
   have hms:ms 1 [.int .u8 0] [(0,none,.c (u8 (.ofNat (j+1))))]=some (.sl 1 (u8C (.ofNat (j+1))) .full):=rfl
   have hw:qbb .u8 (Int.ofNat (j+1)+1)=Int.ofNat (j+1+1):=by
    match j,hj with
    |0,_=>rfl|1,_=>rfl|2,_=>rfl|3,_=>rfl|4,_=>rfl|5,_=>rfl|6,_=>rfl|7,_=>rfl|8,_=>rfl|9,_=>rfl|10,_=>rfl
    |11,_=>rfl|12,_=>rfl|13,_=>rfl|14,_=>rfl|15,_=>rfl|16,_=>rfl|17,_=>rfl|18,_=>rfl|19,_=>rfl|20,_=>rfl|21,_=>rfl
    |_+22,h=>exact absurd h (by omega)
   have hle:¬((22:Int)<Int.ofNat (j+1)):=by simp only[zaf];omega
   simp only[hle,hms,hap,hw,qad,qbl,qaw,decide_false,zal,qaa,cond_true,zab,zaa,qab]
   exact ih
  ·subst hF
   rfl
 ·rw[show qaD (qb0 f s.ntok 22)=qcj (qb0 f s.ntok 22) from rfl,qcV f _ _ rfl]
  rfl
theorem qk8 (x y:List Rw)(hx:x.length<=100000000)(hy:y.length<=100000000):PC CP 20 [qiE x,qiE y] (bl (decide (x=y))):=by
 refine PC.of2 (cf:=cf20) (np:=2) (args':=[qiE x,qiE y]) (by kernel_rfl) (by kernel_rfl) rfl rfl rfl (fun _=>rfl) ((Ev.ge (x.length+1)).mono fun n hn E s=>⟨bl (decide (x=y)),s,(s20_eq _ _ _ _ _).trans ?_,rfl⟩)
 unfold s20
 by_cases hlen:x.length=y.length
 ·have e1:(Int.ofNat x.length=Int.ofNat y.length):=by rw[hlen]
  simp only[e1,qad,qa1,decide_true,zak,qaa,cond_false,zab,zaa,qbq]
  unfold s20_0
  generalize hF:(fun(h7:zA->Res) (x6:zA)=>_)=F
  have main:∀k j,j<=x.length->x.length-j<k->lp (fun _=>none) F k (i64 (.ofNat j))=some (bl (decide (x.drop j=y.drop j)),s):=by
   intro k
   induction k with
   |zero=>intro j _ h;omega
   |succ k ih=>
    intro j hj hk
    rw[qa6]
    rcases zbi j x.length with h|h
    ·have h':j<y.length:=by omega
     have ih2:=ih (j+1) (by omega) (by omega)
     clear ih
     generalize lp _ F k=L at ih2⊢
     subst hF
     have hx1:=qdr (c:=rwC) (sz:=2) (fun _=>rfl) (qag CP n E) s (zah h)
     have hy1:=qdr (c:=rwC) (sz:=2) (fun _=>rfl) (qag CP n E) s (zah h')
     have hq:=qsN true x[j] y[j]
     have hq:eqs [1,1] true (.agg ((rwC x[j]).map .p)) (.agg ((rwC y[j]).map .p))=_:=hq
     simp only[of_lt.2 h,qbR h,qbR h',hx1,hy1,hq,qaN (show j<9223372036854775807 by omega),qad,qao,qaw,decide_true,qaa,cond_true,zab,zaa,qab,qbq]
     rw[zaz h,zaz h']
     cases hb:decide (x[j].1=y[j].1)&&decide (x[j].2=y[j].2) with
     |true=>
      simp only[zak,cond_false]
      rw[ih2]
      simp only[zag,decide_eq_true_eq] at hb
      have he:x[j]=y[j]:=Prod.ext hb.1 hb.2
      simp only[he,zbo,true_and]
     |false=>
      simp only[zal,cond_true]
      have hne:¬(x[j]=y[j]):=fun h=>by rw[h] at hb;simp at hb
      simp only[zbo,hne,false_and,decide_false]
    ·have e1:x.drop j=[]:=List.drop_eq_nil_of_le h
     have e2:y.drop j=[]:=List.drop_eq_nil_of_le (by omega)
     generalize lp _ F k=L
     subst hF
     have h3:¬(Int.ofNat j<Int.ofNat x.length):=fun hh=>by have:=of_lt.1 hh;omega
     simp only[h3,e1,e2,qad,qao,qaw,decide_true,decide_false,qaa,cond_false,zab,zaa,qbq]
  exact main n 0 (zaY _) (by omega)
 ·have e1:¬(Int.ofNat x.length=Int.ofNat y.length):=fun h=>hlen (Int.ofNat.inj h)
  have e2:¬(x=y):=fun h=>hlen (by rw[h])
  simp only[e1,e2,qad,qa1,decide_false,zal,qaa,cond_true,zab,zaa,qbq]
end Go.AI.Tryz
namespace Go.AI.Tryz
theorem qiI (a:Ar)(t:Tm)(w:Rw):qok a t w=((qcO (fun k=>decide (k=w.1)) 0 (qbi t (qaB a))).find? fun o=>decide (o.1=w.1)&&decide (o.2.1=w.2)).map fun o=>qdV o.2.2 w.2 t:=by
 unfold qok
 generalize qcO (fun k=>decide (k=w.1)) 0 (qbi t (qaB a))=l
 induction l with
 |nil=>rfl
 |cons o r ih=>
  simp only[qbz,List.find?_cons]
  by_cases hb:(decide (o.1=w.1)&&decide (o.2.1=w.2))=true
  ·have e:qv6 t w none o=(some (qdV o.2.2 w.2 t),false):=by unfold qv6;rw[if_pos hb]
   rw[e,hb];rfl
  ·have e:qv6 t w none o=(none,true):=by unfold qv6;rw[if_neg hb]
   have hb:(decide (o.1=w.1)&&decide (o.2.1=w.2))=false:=by simpa using hb
   rw[e,hb]
   exact ih
end Go.AI.Tryz
namespace Go.AI.Tryz
theorem qjF (sm:Int->Bool)(x:Sc)(t:Tm)(b:Int):qdv sm x t b=(qdv qcx x t b).filter fun o=>sm o.1:=by
 unfold qdv
 rw[List.filter_filterMap]
 congr 1
 funext i
 simp only[qcx,if_true]
 cases h:qbn i x t with
 |none=>simp
 |some u=>
  simp only[zab,Option.filter]
theorem qdw (sm:Int->Bool):∀(l:List (Sc×Tm)) (b:Int),qcO sm b l=(qcO qcx b l).filter fun o=>sm o.1
 |[],b=>rfl
 |p::r,b=>by
  simp only[qcO,List.filter_append]
  rw[qjF,qdw sm r]
theorem qr1 {o:Of}{l:List (Sc×Tm)}{b:Int}{sm:Int->Bool}(h:o∈qcO sm b l):qci rulL o.1=true:=by
 obtain⟨j,p,i,_,_,hi,h1,_⟩:=qea h
 unfold qci
 rw[List.any_eq_true]
 refine⟨o.1,?_,by simp⟩
 rw[h1]
 unfold rulL
 rw[List.mem_map]
 exact⟨i,zaM (qf5 hi),rfl⟩
theorem qr2 (l:List (Sc×Tm))(b:Int):qcO (qci rulL) b l=qcO qcx b l:=by
 rw[qdw]
 exact List.filter_eq_self.2 fun o ho=>qr1 ho
theorem qqo {sm sm':Int->Bool}{l:List (Sc×Tm)}{b:Int}{o p:Of}(ho:o∈qcO sm b l)(hp:p∈qcO sm' b l)(h1:o.1=p.1)(h2:o.2.1=p.2.1):o.2.2=p.2.2:=by
 obtain⟨j,q,i,a1,a2,_,a3,a4,_⟩:=qea ho
 obtain⟨j',q',i',b1,b2,_,b3,b4,_⟩:=qea hp
 have hj:j=j':=by
  rw[a2,b2] at h2
  simp only[zaf] at h2
  omega
 subst hj
 rw[a1,zac] at b1
 subst b1
 have hi:i=i':=by
  rw[a3,b3] at h1
  simp only[zaf] at h1
  omega
 subst hi
 rw[a4,zac] at b4
 exact b4
theorem qnr {a:Ar}{t:Tm}{o:Of}(ho:o∈qcO qcx 0 (qbi t (qaB a))):qok a t (o.1,o.2.1)=some (qdV o.2.2 o.2.1 t):=by
 have hm:o∈qcO (fun k=>decide (k=o.1)) 0 (qbi t (qaB a)):=by
  rw[qdw,List.mem_filter]
  exact⟨ho,by simp⟩
 rw[qiI]
 cases hf:(qcO (fun k=>decide (k=o.1)) 0 (qbi t (qaB a))).find? fun q=>decide (q.1=o.1)&&decide (q.2.1=o.2.1) with
 |none=>
  have:=List.find?_eq_none.1 hf o hm
  simp at this
 |some q=>
  have h1:=List.mem_of_find?_eq_some hf
  have h2:=List.find?_some hf
  simp only[zag,decide_eq_true_eq] at h2
  rw[zab,qqo h1 hm h2.1 h2.2]
inductive St (a:Ar):Tm->List Rw->Tm->Prop where
 |nil (t):St a t [] t
 |cons {t u:Tm} {o:Of} {r:List Of} {L:List Rw} (h:qcO qcx 0 (qbi t (qaB a))=o::r) (k:St a (qdV o.2.2 o.2.1 t) L u):St a t ((o.1,o.2.1)::L) u
theorem qiJ (a:Ar):∀(m:Nat) (t:Tm) (log:List Rw),qhB a (qci rulL) m t log=qhB a qcx m t log
 |0,_,_=>rfl
 |m+1,t,log=>by
  rw[qeD,qeD,qr2]
  cases qcO qcx 0 (qbi t (qaB a)) with
  |nil=>rfl
  |cons o r=>
   simp only[qsO]
   rw[qiJ a m]
end Go.AI.Tryz
namespace Go.AI.Tryz
theorem qqp {c:Tm->Nat}{most:Nat}:∀(ks:List Tm) (a:Nat),a<=qlm c most a ks
 |[],a=>zan _
 |t::r,a=>by
  simp only[qlm]
  split
  ·have:=qqp (c:=c) (most:=most) r (a+c t);omega
  ·exact zan _
theorem qhC (most:Nat):∀(d:Nat) (t:Tm),1<=qhk most d t/\(qhk most d t<=most->qhk most d t=t.size)
 |0,t=>⟨by simp only[qhk];omega,fun h=>by simp only[qhk] at h;omega⟩
 |d+1,t=>by
  simp only[qhk]
  refine⟨qqp t.ks 1,fun h=>?_⟩
  rw[qkQ t.ks 1 (fun u _=>(qhC most d u).2) (fun u _=>(qhC most d u).1) h,Tm.size_ks t]
theorem qol {a:Ar}{t:Tm}(h:qn4 a t=true):a.ids.length<=20/\(∀t∈a.ids,t.ps.length<=20)/\t.size<=700:=by
 simp only[qn4,zag,qn2,decide_eq_true_eq,zaN,qlT] at h
 refine⟨h.1.1.1,h.1.1.2,?_⟩
 have:=(qhC 700 200 t).2 h.1.2
 omega
end Go.AI.Tryz
namespace Go.AI.Tryz
structure Lw (n:Nat)(e:Env):Prop where
 o:∀f args s,f≠12->cl e f args s=cl (qag CP n []) f args s
 a:∀s,cl e 12 [] s=some (bl true,s)
theorem Lw.c {n:Nat}{e:Env}(h:Lw n e){f:Nat}{args:List zA}{r:zA}(hf:f≠12)(hc:∀E s,cl (qag CP n E) f args s=some (r,s)):∀s,cl e f args s=some (r,s):=fun s=>(h.o f args s hf).trans (hc [] s)
abbrev u16 (k:Nat):zA:=.p (.int .u16 (.ofNat k))
end Go.AI.Tryz
namespace Go.AI
section
variable {P:Program}
theorem HasT.inv_int {n t pcs k}(h:HasT P n t pcs)(hu:P.underlying t=some (.int k)):∃a,pcs=[.int k a]/\(Lit.int k a).wf=true:=by
 cases h with
 |int ht a hw=>rw[hu] at ht;cases ht;exact⟨a,rfl,hw⟩
 |bool ht b=>rw[hu] at ht;cases ht
 |str ht b _=>rw[hu] at ht;cases ht
 |sl ht _ _ _=>rw[hu] at ht;cases ht
 |struct ht _ _ _=>rw[hu] at ht;cases ht
theorem HasT.inv_bool {n t pcs}(h:HasT P n t pcs)(hu:P.underlying t=some .bool):∃b,pcs=[.bool b]:=by
 cases h with
 |bool ht b=>exact⟨b,rfl⟩
 |int ht a hw=>rw[hu] at ht;cases ht
 |str ht b _=>rw[hu] at ht;cases ht
 |sl ht _ _ _=>rw[hu] at ht;cases ht
 |struct ht _ _ _=>rw[hu] at ht;cases ht
theorem HasT.inv_sl {n t pcs e}(h:HasT P n t pcs)(hu:P.underlying t=some (.slice e)):∃(m:Nat) (ls:List (List zP)),n=m+1/\pcs=[.sl ls.length ls.flatten]/\ls.length<=maxLen/\∀l∈ls,HasT P m e l:=by
 cases h with
 |sl ht ls hl h=>rw[hu] at ht;cases ht;exact⟨_,ls,rfl,rfl,hl,h⟩
 |bool ht b=>rw[hu] at ht;cases ht
 |int ht a hw=>rw[hu] at ht;cases ht
 |str ht b _=>rw[hu] at ht;cases ht
 |struct ht _ _ _=>rw[hu] at ht;cases ht
theorem HasT.inv_struct {n t pcs fs}(h:HasT P n t pcs)(hu:P.underlying t=some (.struct fs)):∃(m:Nat) (ls:List (List zP)),n=m+1/\pcs=ls.flatten/\ls.length=fs.size/\∀(i:Nat) l f,ls[i]? =some l->fs[i]? =some f->HasT P m f.type l:=by
 cases h with
 |struct ht ls hl h=>rw[hu] at ht;cases ht;exact⟨_,ls,rfl,rfl,hl,h⟩
 |bool ht b=>rw[hu] at ht;cases ht
 |int ht a hw=>rw[hu] at ht;cases ht
 |str ht b _=>rw[hu] at ht;cases ht
 |sl ht _ _ _=>rw[hu] at ht;cases ht
theorem qua {w:World}{r:Reach}{base:Nat}{t:TypeId}{fs:Array Field}{v:Value}(hu:P.underlying t=some (.struct fs))(ho:Value.okWide P w r base t v):∃cs,v=.agg cs:=by
 unfold Value.okWide at ho
 rw[hu] at ho
 obtain⟨cs,h,_⟩:=ho
 exact⟨cs,h⟩
theorem qhD {α:Type}{c:α->List zP}{Q:α->Prop}:∀(ls:List (List zP)),(∀l∈ls,∃a,c a=l/\Q a)->∃zs:List α,zs.length=ls.length/\qaQ c zs=ls.flatten/\∀a∈zs,Q a
 |[],_=>⟨[],rfl,rfl,fun a h=>by cases h⟩
 |l::ls,h=>by
  obtain⟨a,ha,hq⟩:=h l (zau ..)
  obtain⟨zs,h1,h2,h3⟩:=qhD ls fun m hm=>h m (zax _ hm)
  refine⟨a::zs,by simp[h1],by simp only[qaQ,List.flatten_cons,ha,h2],fun b hb=>?_⟩
  rcases zaA.1 hb with rfl|hb
  ·exact hq
  ·exact h3 b hb
theorem qwU {a:Int}(h:(Lit.int .i64 a).wf=true): -9223372036854775808<=a/\a<=9223372036854775807:=by
 simp[Lit.wf,IntKind.min,IntKind.max,IntKind.signed,IntKind.bits] at h
 omega
theorem wf8 {a:Int}(h:(Lit.int .u8 a).wf=true):0<=a/\a<256:=by
 simp[Lit.wf,IntKind.min,IntKind.max,IntKind.signed,IntKind.bits] at h
 omega
end
end Go.AI
namespace Go.AI.Tryz
open Go.Proofs
theorem qom (ks:List Tm):qaQ Tm.cells ks=Tm.cellsL ks:=by
 induction ks with
 |nil=>rfl
 |cons a r ih=>simp only[qaQ,Tm.cellsL,ih]
theorem qxN {α:Type}{l:List α}(h:l.length=5):∃a b c d e,l=[a,b,c,d,e]:=by
 match l,h with
 |[a,b,c,d,e],_=>exact⟨a,b,c,d,e,rfl⟩
theorem qxO {α:Type}{l:List α}(h:l.length=3):∃a b c,l=[a,b,c]:=by
 match l,h with
 |[a,b,c],_=>exact⟨a,b,c,rfl⟩
theorem qlp {α:Type}{l:List α}(h:l.length=2):∃a b,l=[a,b]:=by
 match l,h with
 |[a,b],_=>exact⟨a,b,rfl⟩
theorem has_tm:∀(n:Nat) (pcs:List zP),HasT Go.Proofs.Tryz.prog n 29 pcs->∃t:Tm,t.cells=pcs/\t.Ok
 |0,pcs,h=>by cases h
 |n+1,pcs,h=>by
  obtain⟨m,ls,hm,rfl,hl,hf⟩:=h.inv_struct Go.Proofs.Tryz.underlying29
  cases hm
  obtain⟨a,b,c,d,e,rfl⟩:=qxN hl
  obtain⟨k,rfl,wk⟩:=(hf 0 a _ rfl rfl).inv_int Go.Proofs.Tryz.underlying5
  obtain⟨x,rfl,wx⟩:=(hf 1 b _ rfl rfl).inv_int Go.Proofs.Tryz.underlying3
  obtain⟨y,rfl,wy⟩:=(hf 2 c _ rfl rfl).inv_int Go.Proofs.Tryz.underlying3
  obtain⟨z,rfl,wz⟩:=(hf 3 d _ rfl rfl).inv_int Go.Proofs.Tryz.underlying3
  obtain⟨m,rs,hm,rfl,hr,he⟩:=(hf 4 e _ rfl rfl).inv_sl Go.Proofs.Tryz.underlying27
  subst hm
  obtain⟨ks,h1,h2,h3⟩:=qhD (c:=Tm.cells) (Q:=Tm.Ok) rs fun l hl=>has_tm m l (he l hl)
  refine⟨.mk k x y z ks,?_,.mk (wf8 wk) (qwU wx) (qwU wy) (qwU wz) (by rw[h1];exact hr) h3⟩
  rw[qom] at h2
  simp only[Tm.cells,h1,h2,List.flatten_cons,List.flatten_nil,zaF,zaJ]
theorem qqq {n:Nat}{pcs:List zP}(h:HasT Go.Proofs.Tryz.prog n 24 pcs):∃b:Bs,b.cells=pcs/\b.Ok:=by
 obtain⟨m,ls,rfl,rfl,hl,hf⟩:=h.inv_struct Go.Proofs.Tryz.underlying24
 obtain⟨a,b,rfl⟩:=qlp hl
 obtain⟨c,rfl⟩:=(hf 0 a _ rfl rfl).inv_bool Go.Proofs.Tryz.underlying4
 obtain⟨x,rfl,wx⟩:=(hf 1 b _ rfl rfl).inv_int Go.Proofs.Tryz.underlying3
 exact⟨⟨c,x⟩,rfl,qwU wx⟩
theorem qwc {n:Nat}{pcs:List zP}(h:HasT Go.Proofs.Tryz.prog n 79 pcs):∃t:Ty,t.cells=pcs/\t.Ok:=by
 obtain⟨m,ls,rfl,rfl,hl,hf⟩:=h.inv_struct Go.Proofs.Tryz.underlying79
 obtain⟨a,b,rfl⟩:=qlp hl
 obtain⟨m,rs,rfl,rfl,hr,he⟩:=(hf 0 a _ rfl rfl).inv_sl Go.Proofs.Tryz.underlying77
 obtain⟨ps,h1,h2,h3⟩:=qhD (c:=Bs.cells) (Q:=Bs.Ok) rs fun l hl=>qqq (he l hl)
 obtain⟨r,hrc,hro⟩:=qqq (hf 1 b _ rfl rfl)
 refine⟨⟨ps,r⟩,?_,by show ps.length<=_;rw[h1];exact hr,h3,hro⟩
 subst hrc
 show[zP.sl ps.length (qaQ Bs.cells ps),.bool r.cell,.int .i64 r.n]=_
 rw[h1,h2]
 rfl
theorem has_ar {n:Nat}{pcs:List zP}(h:HasT Go.Proofs.Tryz.prog n 26 pcs):∃a:Ar,a.cells=pcs/\a.Ok:=by
 obtain⟨m,ls,rfl,rfl,hl,hf⟩:=h.inv_struct Go.Proofs.Tryz.underlying26
 obtain⟨a,b,c,rfl⟩:=qxO hl
 obtain⟨m,rs,rfl,rfl,hr,he⟩:=(hf 0 a _ rfl rfl).inv_sl Go.Proofs.Tryz.underlying22
 obtain⟨ids,h1,h2,h3⟩:=qhD (c:=Ty.cells) (Q:=Ty.Ok) rs fun l hl=>qwc (he l hl)
 obtain⟨r,hrc,hro⟩:=qqq (hf 1 b _ rfl rfl)
 obtain⟨j,rfl⟩:=(hf 2 c _ rfl rfl).inv_bool Go.Proofs.Tryz.underlying4
 refine⟨⟨ids,r,j⟩,?_,by show ids.length<=_;rw[h1];exact hr,h3,hro⟩
 subst hrc
 show[zP.sl ids.length (qaQ Ty.cells ids),.bool r.cell,.int .i64 r.n,.bool j]=_
 rw[h1,h2]
 rfl
theorem qub {P:Program}{w:World}{n:Nat}{t:TypeId}{cs:Array Value}{pcs:List zP}(h:qnZ P w n t cs.toList pcs):VR G00 w (.agg (pcs.map .p)) (.agg cs):=by
 obtain⟨_,h1,h2,h3⟩:=h
 refine .agg _ _ (by rw[zaZ,h1,zbc]) (fun v hv=>h2 v (by simpa using hv)) fun i c v hc hv=>?_
 rw[za9,zad] at hc
 obtain⟨p,hp,rfl⟩:=hc
 exact .p p v ((h3 i p v hp (by rw[zaL];exact hv)).mono fun ad u hu _=>⟨hu,trivial⟩)
def qqr:List TypeId:=[3,4,5,22,24,26,27,29,77,79]
theorem m26:26∈qqr:=by simp[qqr]
theorem m29:29∈qqr:=by simp[qqr]
theorem lawTs_ok:qhf Go.Proofs.Tryz.prog qqr=true:=by kernel_rfl
theorem arg_told {P:Program}{ts:List TypeId}(hok:qhf P ts=true){t:TypeId}{fs:Array Field}(ht:t∈ts)(hu:P.underlying t=some (.struct fs)){H:Type}{enc:TypeId×Value->H}{w:World}{base base':Nat}{spare:Nat->Bool}{held:Bool}{r:Reach}{v:Value}{d:DataW H}{ps:List MemPlace}(ho:Value.okWide P w r base t v)(h:DataW.Trod enc P w base' spare held t v d ps):
  ∃n pcs,HasT P n t pcs/\VR G00 w (.agg (pcs.map .p)) v:=by
 obtain⟨cs,rfl⟩:=qua hu ho
 obtain⟨fuel,h⟩:=h
 obtain⟨pcs,hp⟩:=qix hok fuel t _ _ ht h
 exact⟨fuel,pcs,hp.1,qub hp⟩
end Go.AI.Tryz
namespace Go.AI
def tkO (s:ASt)(m:Nat):Tk:=match m with
 |0=> .full
 |_+1=> .own s.ntok
def stO (s:ASt)(m sz:Nat):ASt:=match m with
 |0=>s
 |m+1=>{s with ntok:=s.ntok+1,toks:=(s.ntok,m+1,sz)::s.toks}
theorem qxP (e:Env){sz b m:Nat}{cs:List zP}(s:ASt)(hl:cs.length=m*sz)(hb:m*b<=140737488355328):ap e sz b (.sl 0 [] .full) (.p (.sl m cs)) s=some (.sl m cs (tkO s m),stO s m sz):=by
 unfold ap stV
 have h1:Nat.ble ((0+m)*b) 140737488355328=true:=ble_iff.2 (by rw[zaK];exact hb)
 have h2:Nat.beq cs.length (m*sz)=true:=qaE hl
 have h3:Nat.beq ([]:List zP).length (0*sz)=true:=qaE (by simp)
 simp only[qaJ,Arg.ev,qdE,zaa,h1,h2,h3,zat,cond_true]
 cases m with
 |zero=>
  rw[Nat.zero_mul] at hl
  have:cs=[]:=za1.1 hl
  subst this
  rfl
 |succ m=>
  simp only[Nat.beq,cond_false,zaK,zaJ]
  rfl
end Go.AI
namespace Go.AI.Tryz
theorem qx8 (a b c:zA):qeP [a,b,c] 0=some a:=rfl
theorem qx9 (a b c:zA):qeP [a,b,c] 1=some b:=rfl
theorem qya (a b c:zA):qeP [a,b,c] 2=some c:=rfl
end Go.AI.Tryz
namespace Go.AI
structure Sn where
 ty:Ty
 arg:Bool
 new:Bool
namespace Sn
def cells (x:Sn):List zP:=x.ty.cells++[.bool x.arg,.bool x.new]
def v (x:Sn):zA:=.agg (x.cells.map .p)
theorem v_eq (x:Sn):x.v=.agg [.p (.sl x.ty.ps.length (qaQ Bs.cells x.ty.ps)),bl x.ty.res.cell,i64 x.ty.res.n,bl x.arg,bl x.new]:=rfl
def c (x:Sn):List zA:=[.p (.sl x.ty.ps.length (qaQ Bs.cells x.ty.ps)),bl x.ty.res.cell,i64 x.ty.res.n,bl x.arg,bl x.new]
end Sn
abbrev sw (l:List Sn):zA:=.p (.sl l.length (qaQ Sn.cells l))
def qeg (l:List Sn)(i:Int):Option Sn:=if i<1 then none else l[(i-1).toNat]?
theorem quc {l:List Sn}{i:Int}(h:qeg l i=none):i<1\/Int.ofNat l.length<i:=by
 unfold qeg at h
 split at h
 ·exact .inl ‹_›
 ·rw[List.getElem?_eq_none_iff] at h
  right;simp only[zaf];omega
theorem qk9 {l:List Sn}{i:Int}{x:Sn}(h:qeg l i=some x):∃j:Nat,i=Int.ofNat (j+1)/\j<l.length/\l[j]? =some x:=by
 unfold qeg at h
 split at h
 ·cases h
 ·obtain⟨hj,_⟩:=zao.1 h
  exact⟨(i-1).toNat,by simp only[zaf];omega,hj,h⟩
theorem qwd {j n:Nat}(h:j<n)(hn:n<=1000000):¬Int.ofNat (j+1)<1/\¬Int.ofNat n<Int.ofNat (j+1)/\qbb .i64 (Int.ofNat (j+1)-1)=Int.ofNat j:=by
 refine⟨by simp only[zaf];omega,by simp only[zaf];omega,?_⟩
 have:Int.ofNat (j+1)-1=Int.ofNat j:=by simp only[zaf];omega
 rw[this]
 exact qbu (by simp only[zaf];omega) (by simp only[zaf];omega)
def qcm (l:List Sn)(i z:Int):Bool:=match qeg l i with
 |none=>false
 |some x=>!x.arg&&(decide (Int.ofNat x.ty.ps.length=0)&&(x.ty.res.cell&&(decide (z=0)||decide (x.ty.res.n=z))))
def fR (t:Tm):Bool:=
 if t.k=1\/t.k=5\/t.k=10 then decide (t.i=0)
 else if t.k=6\/t.k=12 then decide (t.m=0)&&decide (t.i=0)
 else if t.k=2\/t.k=3\/t.k=4\/t.k=15\/t.k=16 then decide (t.n=0)&&decide (t.m=0)
 else if t.k=18 then decide (t.m=0)
 else decide (t.n=0)&&(decide (t.m=0)&&decide (t.i=0))
def kR (k:Int):Int:=if k=2 then -1 else if k=4\/k=6\/k=10\/k=18 then 1 else if k=5\/k=7\/k=9\/k=11\/k=13\/k=17 then 2 else if k=8 then 3 else 0
end Go.AI
namespace Go.AI.Tryz
theorem qqs (x:Sn):zA.cells (some 5) x.v=some x.c:=rfl
theorem qwe (x:Sn):over [.sl 0 [] .full,bl false,i64 0,bl false,bl false] 0 x.c=some x.c:=rfl
theorem snld (x:Sn):ldL x.c 0 (some 5)=some x.v:=rfl
theorem snl0 (x:Sn):ldL x.c 0 none=some (.p (.sl x.ty.ps.length (qaQ Bs.cells x.ty.ps))):=rfl
theorem snl1 (x:Sn):ldL x.c 1 none=some (bl x.ty.res.cell):=rfl
theorem snl2 (x:Sn):ldL x.c 2 none=some (i64 x.ty.res.n):=rfl
theorem snl3 (x:Sn):ldL x.c 3 none=some (bl x.arg):=rfl
theorem qxQ (e:Env)(s:ASt){l:List Sn}{j:Nat}{x:Sn}(h:l[j]? =some x):ldH e s (.elem (qaQ Sn.cells l) (j*5)) (some 5)=some x.v:=qdr (c:=Sn.cells) (sz:=5) (fun _=>rfl) e s h
theorem qqt (e:Env)(s:ASt){l:List Sn}{j:Nat}{x:Sn}(h:l[j]? =some x):ldH e s (.elem (qaQ Sn.cells l) (j*5+2)) none=some (i64 x.ty.res.n):=qjp (c:=Sn.cells) (sz:=5) (fun _=>rfl) e s h 2 (by omega)
theorem qsP (e:Env)(s:ASt){l:List Sn}{j:Nat}{x:Sn}(h:l[j]? =some x):ldH e s (.elem (qaQ Sn.cells l) (j*5+3)) none=some (bl x.arg):=qjp (c:=Sn.cells) (sz:=5) (fun _=>rfl) e s h 3 (by omega)
theorem qwf (e:Env)(s:ASt){l:List Sn}{j:Nat}{x:Sn}(h:l[j]? =some x):ldH e s (.elem (qaQ Sn.cells l) (j*5+4)) none=some (bl x.new):=qjp (c:=Sn.cells) (sz:=5) (fun _=>rfl) e s h 4 (by omega)
theorem snty (e:Env)(s:ASt){l:List Sn}{j:Nat}{x:Sn}(h:l[j]? =some x):ldH e s (.elem (qaQ Sn.cells l) (j*5)) (some 3)=some x.ty.v:=by
 have hc:∀y:Sn,(Sn.cells y).length=5:=fun _=>rfl
 rw[qfz]
 have h5:cut (qaQ Sn.cells l) (j*5) 3=some x.ty.cells:=by
  unfold cut
  have:=qpy hc (zao.1 h).1
  rw[qcD,qcE,qhl hc h,ble_iff.2 (by omega),cond_true,List.take_append_of_le_length (by rw[hc];omega)]
  rfl
 simp only[cnt,h5,zab,zaa,zA.ofCells]
 rfl
theorem qla (n:Int):PC CP 171 [i64 n] (bl (qbd n)):=by
 refine PC.of2 (cf:=cf171) (np:=1) (args':=[i64 n]) (by kernel_rfl) (by kernel_rfl) rfl (by first|rfl|(simp only[zap,qak,qb9];rfl)) (by first|rfl|(simp only[zam,qai,qca];rfl)) (fun lo=>by first|rfl|exact qaM lo _|exact qaW lo _|exact qcf lo _ _) (Ev.mono (ev0) fun N _ E s=>⟨bl (qbd n),s,(s171_eq _ _ _ _).trans ?_,(by first|rfl|exact qai _|exact qaP _|exact qb5 _ _)⟩)
 unfold s171 s171_0 qbd
 simp only[qad,qbl,qa7,qaa,qaj,zab,zaa]
 cases decide (n<1)<;>rfl
theorem qr3 (k:Int):PC CP 170 [u8 k] (i64 (kR k)):=by
 refine PC.of2 (cf:=cf170) (np:=1) (args':=[u8 k]) (by kernel_rfl) (by kernel_rfl) rfl (by first|rfl|(simp only[zap,qak,qb9];rfl)) (by first|rfl|(simp only[zam,qai,qca];rfl)) (fun lo=>by first|rfl|exact qaM lo _|exact qaW lo _|exact qcf lo _ _) (Ev.mono (ev0) fun N _ E s=>⟨i64 (kR k),s,(s170_eq _ _ _ _).trans ?_,(by first|rfl|exact qai _|exact qaP _|exact qb5 _ _)⟩)
 have hk:k=2\/k=4\/k=6\/k=10\/k=18\/k=5\/k=7\/k=9\/k=11\/k=13\/k=17\/k=8\/(k≠2/\k≠4/\k≠6/\k≠10/\k≠18/\k≠5/\k≠7/\k≠9/\k≠11/\k≠13/\k≠17/\k≠8):=by omega
 unfold s170 s170_7 s170_6 s170_5 s170_4 s170_3 s170_2 s170_1 s170_0 kR
 rcases hk with h|h|h|h|h|h|h|h|h|h|h|h|h<;>simp only[h,if_true,if_false,or_true,or_false,qad,qaf,zaj,decide_true,decide_false,qaa,cond_true,cond_false,qaj,zab,zaa]
theorem qlb (t:Tm):PC CP 117 [t.v] (bl (fR t)):=by
 refine PC.of2 (cf:=cf117) (np:=1) (args':=[t.v]) (by kernel_rfl) (by kernel_rfl) rfl (by first|rfl|(simp only[zap,qak];rfl)) (by first|rfl|(simp only[zam,qai];rfl)) (fun lo=>by first|rfl|exact qaM lo _|exact qaW lo _|exact qcf lo _ _) (Ev.mono (ev0) fun N _ E s=>⟨bl (fR t),s,(s117_eq _ _ _ _).trans ?_,(by first|rfl|exact qai _|exact qaP _|exact qb5 _ _)⟩)
 have hk:t.k=1\/t.k=5\/t.k=10\/t.k=6\/t.k=12\/t.k=2\/t.k=3\/t.k=4\/t.k=15\/t.k=16\/t.k=18\/(t.k≠1/\t.k≠5/\t.k≠10/\t.k≠6/\t.k≠12/\t.k≠2/\t.k≠3/\t.k≠4/\t.k≠15/\t.k≠16/\t.k≠18):=by omega
 unfold s117 s117_11 s117_10 s117_9 s117_8 s117_7 s117_6 s117_5 s117_4 s117_3 s117_2 s117_1 s117_0 fR
 rcases hk with h|h|h|h|h|h|h|h|h|h|h|h<;>simp only[h,if_true,if_false,or_true,or_false,qah,qbc,qb1,qef,qcL,qad,qaf,zaj,decide_true,decide_false,qaa,cond_true,cond_false,qaj,zab,zaa]<;>cases decide (t.n=0)<;>cases decide (t.m=0)<;>simp only[cond_true,cond_false,zay,zav]
theorem qjG (l:List Sn)(hl:l.length<=1000000)(i z:Int):PC CP 118 [sw l,i64 i,i64 z] (bl (qcm l i z)):=by
 refine PC.of2 (cf:=cf118) (np:=3) (args':=[sw l,i64 i,i64 z]) (by kernel_rfl) (by kernel_rfl) rfl (by first|rfl|(simp only[zap,qak,qb9];rfl)) (by first|rfl|(simp only[zam,qai,qca];rfl)) (fun lo=>by first|rfl|exact qaM lo _|exact qaW lo _|exact qcf lo _ _) (Ev.mono (ev0) fun N _ E s=>⟨bl (qcm l i z),s,(s118_eq _ _ _ _ _ _).trans ?_,(by first|rfl|exact qai _|exact qaP _|exact qb5 _ _)⟩)
 unfold s118 s118_1 s118_0 qcm
 cases h:qeg l i with
 |none=>
  by_cases h1:i<1
  ·simp only[h1,qad,qaf,qao,qaG,qa2,decide_true,qaa,cond_true,qaj,zab,zaa,qbq]
  ·have h2:Int.ofNat l.length<i:=by rcases quc h with h|h;exact absurd h h1;exact h
   simp only[h1,h2,qad,qaf,qao,qaG,qa2,decide_true,decide_false,qaa,cond_true,cond_false,qaj,zab,zaa,qbq]
 |some x=>
  obtain⟨j,rfl,hj,hx⟩:=qk9 h
  obtain⟨h1,h2,h3⟩:=qwd hj hl
  simp only[h1,h2,h3,qbR hj,qxQ _ _ hx,qqs,qwe,snl0,snl1,snl2,snl3,qad,qaf,qao,qaG,qa2,decide_false,qaa,cond_false,qaj,zab,zaa,qab,qam,qbq]
  cases x.arg<;>cases decide (Int.ofNat x.ty.ps.length=0)<;>cases x.ty.res.cell<;>cases decide (z=0)<;>rfl
def Sn.cell (n:Int):Sn:=⟨⟨[],⟨true,n⟩⟩,false,true⟩
def Sn.val (n:Int):Sn:=⟨⟨[],⟨false,n⟩⟩,true,false⟩
theorem z5l (a b c d f:zA):ldL [a,b,c,d,f] 0 (some 5)=some (.agg [a,b,c,d,f]):=rfl
theorem z5c (a b c d f:zA):zA.cells (some 5) (.agg [a,b,c,d,f])=some [a,b,c,d,f]:=rfl
theorem z5o (a b c d f a' b' c' d' f':zA):over [a,b,c,d,f] 0 [a',b',c',d',f']=some [a',b',c',d',f']:=rfl
theorem qqu (n:Int):PC CP 122 [i64 n] ((Sn.cell n).v):=by
 refine PC.of2 (cf:=cf122) (np:=1) (args':=[i64 n]) (by kernel_rfl) (by kernel_rfl) rfl (by first|rfl|(simp only[zap,qak,qb9];rfl)) (by first|rfl|(simp only[zam,qai,qca];rfl)) (fun lo=>by first|rfl|exact qaM lo _|exact qaW lo _|exact qcf lo _ _) (Ev.mono (ev0) fun N _ E s=>⟨.agg [.sl 0 [] .full,bl true,i64 n,bl false,bl true],s,(s122_eq _ _ _ _).trans ?_,(by first|rfl|exact qai _|exact qaP _|exact qb5 _ _)⟩)
 have q1:bd [bl false,i64 0] [(0,none,.c (bl true)),(1,none,.c (i64 n))]=some (.agg [bl true,i64 n]):=rfl
 have q2:bd [.sl 0 [] .full,bl false,i64 0] [(1,some 2,.c (.agg [bl true,i64 n]))]=some (.agg [.sl 0 [] .full,bl true,i64 n]):=rfl
 have q3:bd [.sl 0 [] .full,bl false,i64 0,bl false,bl false] [(0,some 3,.c (.agg [.sl 0 [] .full,bl true,i64 n])),(4,none,.c (bl true))]=some (.agg [.sl 0 [] .full,bl true,i64 n,bl false,bl true]):=rfl
 unfold s122
 simp only[q1,q2,q3,z5l,z5c,z5o,zaa]
theorem qsQ (n:Int):PC CP 120 [i64 n] ((Sn.val n).v):=by
 refine PC.of2 (cf:=cf120) (np:=1) (args':=[i64 n]) (by kernel_rfl) (by kernel_rfl) rfl (by first|rfl|(simp only[zap,qak,qb9];rfl)) (by first|rfl|(simp only[zam,qai,qca];rfl)) (fun lo=>by first|rfl|exact qaM lo _|exact qaW lo _|exact qcf lo _ _) (Ev.mono (ev0) fun N _ E s=>⟨.agg [.sl 0 [] .full,bl false,i64 n,bl true,bl false],s,(s120_eq _ _ _ _).trans ?_,(by first|rfl|exact qai _|exact qaP _|exact qb5 _ _)⟩)
 have q1:bd [bl false,i64 0] [(1,none,.c (i64 n))]=some (.agg [bl false,i64 n]):=rfl
 have q2:bd [.sl 0 [] .full,bl false,i64 0] [(1,some 2,.c (.agg [bl false,i64 n]))]=some (.agg [.sl 0 [] .full,bl false,i64 n]):=rfl
 have q3:bd [.sl 0 [] .full,bl false,i64 0,bl false,bl false] [(0,some 3,.c (.agg [.sl 0 [] .full,bl false,i64 n])),(3,none,.c (bl true))]=some (.agg [.sl 0 [] .full,bl false,i64 n,bl true,bl false]):=rfl
 unfold s120
 simp only[q1,q2,q3,z5l,z5c,z5o,zaa]
end Go.AI.Tryz
namespace Go.AI
theorem ap_r (e:Env){sz b m:Nat}{cs:List zP}(f:Nat->List zP)(s:ASt)(hl:cs.length=m*sz)(hb:m*b<=140737488355328)(hf:f m=cs):ap e sz b (.sl 0 [] .full) (.p (.sl m cs)) s=some (qb0 f s.ntok m,qc6 s sz m):=by
 unfold ap stV
 have h1:Nat.ble ((0+m)*b) 140737488355328=true:=ble_iff.2 (by rw[zaK];exact hb)
 have h2:Nat.beq cs.length (m*sz)=true:=qaE hl
 have h3:Nat.beq ([]:List zP).length (0*sz)=true:=qaE (by simp)
 simp only[qaJ,Arg.ev,qdE,zaa,h1,h2,h3,zat,cond_true]
 subst hf
 cases m with
 |zero=>
  rw[Nat.zero_mul] at hl
  rw[za1.1 hl]
  rfl
 |succ m=>
  simp only[Nat.beq,cond_false,zaK,zaJ]
  rfl
theorem qf8 (f:Nat->List zP)(k j:Nat)(h0:f 0=[]):qaD (qb0 f k j)=.p (.sl j (f j)):=qcV f k j h0▸(by cases j<;>rfl)
end Go.AI
namespace Go.AI.Tryz
theorem qjH (l:List Sn)(hl:l.length<=1000000)(y:Sn):PC CP 119 [sw l,y.v] (sw (l++[y])):=by
 let f:Nat->List zP:=fun j=>qaQ Sn.cells ((l++[y]).take j)
 refine PC.of2 (cf:=cf119) (np:=2) (args':=[sw l,y.v]) (by kernel_rfl) (by kernel_rfl) rfl rfl rfl (fun _=>rfl) (Ev.mono ev0 fun N _ E s=>⟨qb0 f s.ntok (l.length+1),qc6 s 5 (l.length+1),(s119_eq _ _ _ _ _).trans ?_,?_⟩)
 ·have h1:=ap_r (qag CP N E) (sz:=5) (b:=48) f s (qd4 (c:=Sn.cells) (fun _=>rfl) l) (by omega) (by simp only[f,List.take_left'])
  have hms:ms 1 [.sl 0 [],.bool false,.int .i64 0,.bool false,.bool false] [(0,some 5,.c y.v)]=some (.sl 1 y.cells .full):=rfl
  have h2:=qeV (qag CP N E) (sz:=5) (b:=48) (f:=f) (new:=y.cells) (y:=.sl 1 y.cells .full) s l.length rfl rfl (by omega) (by
   have:=qbQ (c:=Sn.cells) (l:=l++[y]) (j:=l.length) (by simp)
   rw[List.getElem_append_right (zan _)] at this
   simpa[f] using this)
  have hs:qaT (cut y.c 0 5) (cut y.c 0 5)=true:=by
   have:cut y.c 0 5=some y.c:=rfl
   rw[this]
   simp only[qaT,Sn.c,qdn,qfW,zat]
  unfold s119
  simp only[qqs,snld,h1,hms,h2,hs,za7,zaa,qab,cnd]
 ·rw[qf8 f _ _ rfl]
  simp only[f,sw,zaw,zar,zaB,zaK]
  rw[List.take_of_length_le (by simp)]
theorem qns (a:Ar)(h1:a.ids.length<=1000000):PC CP 69 [a.v] (sw (a.ids.map fun t=>⟨t,false,false⟩)):=by
 let l:List Sn:=a.ids.map fun t=>⟨t,false,false⟩
 have hll:l.length=a.ids.length:=zaZ _
 let f:Nat->List zP:=fun j=>qaQ Sn.cells (l.take j)
 refine PC.of2 (cf:=cf69) (np:=1) (args':=[a.v]) (by kernel_rfl) (by kernel_rfl) rfl rfl rfl (fun _=>rfl) ((Ev.ge (a.ids.length+1)).mono fun N hn E s=>⟨qb0 f s.ntok a.ids.length,qc6 s 5 a.ids.length,(s69_eq _ _ _ _).trans ?_,?_⟩)
 ·unfold s69 s69_0
  rw[qcQ,zaa]
  generalize hF:(fun(h6:zA->zA->ASt->Res) (x3 x4:zA) (s5:ASt)=>_)=F
  refine qck _ F a.ids.length (fun j L=>L (qb0 f s.ntok j) (i64 (.ofNat j)) (qc6 s 5 j)) (fun _=>some (qb0 f s.ntok a.ids.length,qc6 s 5 a.ids.length)) (fun j L hj ih=>?_) (fun L=>?_) N 0 (zaY _) (by omega)
  ·subst hF
   have hk:a.ids[j]? =some a.ids[j]:=zah hj
   have hld:∀s,ldH (qag CP N E) s (.elem (qaQ Ty.cells a.ids) (j*3)) (some 3)=some a.ids[j].v:=fun s=>qdr (c:=Ty.cells) (sz:=3) (fun _=>rfl) _ s hk
   have hjl:j<l.length:=by rw[hll];exact hj
   have hlj:l[j]=⟨a.ids[j],false,false⟩:=by simp only[l,List.getElem_map]
   have hbd:bd [.sl 0 [] .full,bl false,i64 0,bl false,bl false] [(0,some 3,.c a.ids[j].v)]=some (Sn.v ⟨a.ids[j],false,false⟩):=rfl
   have hms:ms 1 [.sl 0 [],.bool false,.int .i64 0,.bool false,.bool false] [(0,some 5,.c (Sn.v ⟨a.ids[j],false,false⟩))]=some (.sl 1 (Sn.cells ⟨a.ids[j],false,false⟩) .full):=rfl
   have hap:=qeV (qag CP N E) (sz:=5) (b:=48) (f:=f) (y:=.sl 1 (Sn.cells ⟨a.ids[j],false,false⟩) .full) s j rfl rfl (by omega) (by
    have:=qbQ (c:=Sn.cells) hjl
    rw[hlj] at this
    exact this)
   have hl0:ldL [.p (.sl a.ids.length (qaQ Ty.cells a.ids)),bl a.root.cell,i64 a.root.n,bl a.jumps] 0 none=some (.p (.sl a.ids.length (qaQ Ty.cells a.ids))):=rfl
   simp only[hl0,of_lt.2 hj,qbR hj,hld,hbd,hms,hap,qaN (show j<9223372036854775807 by omega),qad,qao,qaw,decide_true,qaa,cond_true,zab,zaa,qab,qbq]
   exact ih
  ·subst hF
   have h3:¬(Int.ofNat a.ids.length<Int.ofNat a.ids.length):=fun h=>zaX _ (of_lt.1 h)
   have hl0:ldL [.p (.sl a.ids.length (qaQ Ty.cells a.ids)),bl a.root.cell,i64 a.root.n,bl a.jumps] 0 none=some (.p (.sl a.ids.length (qaQ Ty.cells a.ids))):=rfl
   simp only[hl0,h3,qad,qao,qaw,decide_false,qaa,cond_false,zab,zaa,qbq]
 ·rw[qf8 f _ _ rfl]
  simp only[f]
  rw[<-hll,List.take_length]
end Go.AI.Tryz
namespace Go.AI.Tryz
def flR (k n m lab:Int)(z:List Int):Int:=
 if k=6 then(if qbd n then n else 0)
 else if k=7 then(if z[0]?.getD 0=1 then z[1]?.getD 0 else 0)
 else if k=8 then(if z[1]?.getD 0=z[2]?.getD 0 then z[1]?.getD 0 else 0)
 else if k=9 then(if z[1]?.getD 0=1 then 1 else 0)
 else if k=10 then(if qbd n&&qbh m n then z[0]?.getD 0 else 0)
 else if k=11\/k=13 then(if z[0]?.getD 0=z[1]?.getD 0 then z[0]?.getD 0 else 0)
 else if k=12 then(if qbh n lab then 1 else 0)
 else if k=14 then 1 else 0
theorem qud (e:Env){l:List Int}{j:Nat}{a:Int}(h:l[j]? =some a):iaV 1 (iv l) (i64 (.ofNat j))=some (qaQ qcZ l,j*1)/\∀s,ldH e s (.elem (qaQ qcZ l) (j*1)) none=some (i64 a):=
 ⟨qbR (zao.1 h).1,fun s=>qeu (c:=qcZ) (sz:=1) (fun _=>rfl) e s h (by omega)⟩
theorem que (e:Env){a:Int}{r:List Int}:iaV 1 (iv (a::r)) (i64 0)=some (qaQ qcZ (a::r),0)/\∀s,ldH e s (.elem (qaQ qcZ (a::r)) 0) none=some (i64 a):=qud e (j:=0) rfl
theorem quP (e:Env){a b:Int}{r:List Int}:iaV 1 (iv (a::b::r)) (i64 1)=some (qaQ qcZ (a::b::r),1)/\∀s,ldH e s (.elem (qaQ qcZ (a::b::r)) 1) none=some (i64 b):=qud e (j:=1) rfl
theorem iv_2 (e:Env){a b c:Int}{r:List Int}:iaV 1 (iv (a::b::c::r)) (i64 2)=some (qaQ qcZ (a::b::c::r),2)/\∀s,ldH e s (.elem (qaQ qcZ (a::b::c::r)) 2) none=some (i64 c):=qud e (j:=2) rfl
theorem qwg (t:Tm)(lab:Int)(z:List Int)(h7:t.k=7\/t.k=9\/t.k=11\/t.k=13->z.length=2)(h8:t.k=8->z.length=3)(h10:t.k=10->z.length=1):PC CP 173 [t.v,iv z,i64 lab] (i64 (flR t.k t.n t.m lab z)):=by
 refine PC.of2 (cf:=cf173) (np:=3) (args':=[t.v,iv z,i64 lab]) (by kernel_rfl) (by kernel_rfl) rfl (by first|rfl|(simp only[zap,qak];rfl)) (by first|rfl|(simp only[zam,qai];rfl)) (fun lo=>by first|rfl|exact qaM lo _|exact qaW lo _|exact qcf lo _ _) (Ev.mono (qla t.n) fun N hz E s=>⟨i64 (flR t.k t.n t.m lab z),s,(s173_eq _ _ _ _ _ _).trans ?_,(by first|rfl|exact qai _|exact qaP _|exact qb5 _ _)⟩)
 have hk:t.k=6\/t.k=7\/t.k=8\/t.k=9\/t.k=10\/t.k=11\/t.k=13\/t.k=12\/t.k=14\/(t.k≠6/\t.k≠7/\t.k≠8/\t.k≠9/\t.k≠10/\t.k≠11/\t.k≠13/\t.k≠12/\t.k≠14):=by omega
 unfold s173 s173_9 s173_8 s173_7 s173_6 s173_5 s173_4 s173_3 s173_2 s173_1 s173_0 flR
 rcases hk with h|h|h|h|h|h|h|h|h|h
 ·simp -implicitDefEqProofs only[h,hz,if_true,qah,qbc,qb1,qef,qad,qaf,qao,qa7,zaj,decide_true,decide_false,qaa,cond_true,cond_false,qaj,zab,zaa,qab]
  cases qbd t.n<;>rfl
 ·match z,h7 (.inl h) with
  |[a,b],_=>
   obtain⟨i0,l0⟩:=que (qag CP N E) (a:=a) (r:=[b])
   obtain⟨i1,l1⟩:=quP (qag CP N E) (a:=a) (b:=b) (r:=[])
   simp -implicitDefEqProofs only[h,i0,l0,i1,l1,if_true,if_false,zas,zaO,qah,qbc,qb1,qef,qad,qaf,qao,qa7,zaj,decide_true,decide_false,qaa,cond_true,cond_false,qaj,zab,zaa,qab,zaE]
   by_cases g:a=1<;>simp only[g,if_true,if_false,decide_true,decide_false,cond_true,cond_false]
 ·match z,h8 h with
  |[a,b,c],_=>
   obtain⟨i1,l1⟩:=quP (qag CP N E) (a:=a) (b:=b) (r:=[c])
   obtain⟨i2,l2⟩:=iv_2 (qag CP N E) (a:=a) (b:=b) (c:=c) (r:=[])
   simp -implicitDefEqProofs only[h,i2,l2,i1,l1,if_true,if_false,zas,zaO,qah,qbc,qb1,qef,qad,qaf,qao,qa7,zaj,decide_true,decide_false,qaa,cond_true,cond_false,qaj,zab,zaa,qab,zaE]
   by_cases g:b=c<;>simp only[g,if_true,if_false,decide_true,decide_false,cond_true,cond_false]
 ·match z,h7 (.inr (.inl h)) with
  |[a,b],_=>
   obtain⟨i1,l1⟩:=quP (qag CP N E) (a:=a) (b:=b) (r:=[])
   simp -implicitDefEqProofs only[h,i1,l1,if_true,if_false,zas,zaO,qah,qbc,qb1,qef,qad,qaf,qao,qa7,zaj,decide_true,decide_false,qaa,cond_true,cond_false,qaj,zab,zaa,qab,zaE]
   by_cases g:b=1<;>simp only[g,if_true,if_false,decide_true,decide_false,cond_true,cond_false]
 ·match z,h10 h with
  |[a],_=>
   obtain⟨i0,l0⟩:=que (qag CP N E) (a:=a) (r:=[])
   simp -implicitDefEqProofs only[h,hz,i0,l0,if_true,if_false,qbh,zas,zaO,qah,qbc,qb1,qef,qad,qaf,qao,qa7,zaj,decide_true,decide_false,qaa,cond_true,cond_false,qaj,zab,zaa,qab,zaE]
   cases qbd t.n<;>cases decide (t.m<0)<;>cases decide (t.m<t.n)<;>rfl
 ·match z,h7 (.inr (.inr (.inl h))) with
  |[a,b],_=>
   obtain⟨i0,l0⟩:=que (qag CP N E) (a:=a) (r:=[b])
   obtain⟨i1,l1⟩:=quP (qag CP N E) (a:=a) (b:=b) (r:=[])
   simp -implicitDefEqProofs only[h,i0,l0,i1,l1,if_true,if_false,true_or,zas,zaO,qah,qbc,qb1,qef,qad,qaf,qao,qa7,zaj,decide_true,decide_false,qaa,cond_true,cond_false,qaj,zab,zaa,qab,zaE]
   by_cases g:a=b<;>simp only[g,if_true,if_false,decide_true,decide_false,cond_true,cond_false]
 ·match z,h7 (.inr (.inr (.inr h))) with
  |[a,b],_=>
   obtain⟨i0,l0⟩:=que (qag CP N E) (a:=a) (r:=[b])
   obtain⟨i1,l1⟩:=quP (qag CP N E) (a:=a) (b:=b) (r:=[])
   simp -implicitDefEqProofs only[h,i0,l0,i1,l1,if_true,if_false,or_true,zas,zaO,qah,qbc,qb1,qef,qad,qaf,qao,qa7,zaj,decide_true,decide_false,qaa,cond_true,cond_false,qaj,zab,zaa,qab,zaE]
   by_cases g:a=b<;>simp only[g,if_true,if_false,decide_true,decide_false,cond_true,cond_false]
 ·simp -implicitDefEqProofs only[h,if_true,if_false,qbh,or_self,qah,qbc,qb1,qef,qad,qaf,qao,qa7,zaj,decide_true,decide_false,qaa,cond_true,cond_false,qaj,zab,zaa]
  by_cases g:t.n<0<;>by_cases g':t.n<lab<;>simp only[g,g',decide_true,decide_false,zak,zal,zat,zaT,zav,cond_true,cond_false,if_true,if_false,zai]
 ·simp -implicitDefEqProofs only[h,if_true,if_false,or_self,qah,qbc,qb1,qef,qad,qaf,qao,qa7,zaj,decide_true,decide_false,qaa,cond_true,cond_false,qaj,zab,zaa]
 ·simp -implicitDefEqProofs only[h,if_false,or_self,qah,qbc,qb1,qef,qad,qaf,qao,qa7,decide_false,qaa,cond_false,qaj,zab,zaa]
end Go.AI.Tryz
namespace Go.AI.Tryz
def usR (l:List Sn)(t:Tm)(f:Tm->Bs->Bool):Int:=match qeg l t.i with
 |none=>0
 |some e=>if e.arg then 0 else if e.ty.res.cell then 0 else if qbv f t.ks e.ty.ps then e.ty.res.n else 0
def Ty.c (t:Ty):List zA:=[.p (.sl t.ps.length (qaQ Bs.cells t.ps)),bl t.res.cell,i64 t.res.n]
theorem tyc (t:Ty):zA.cells (some 3) t.v=some (Ty.c t):=rfl
theorem tyo (t:Ty):over [.sl 0 [] .full,bl false,i64 0] 0 (Ty.c t)=some (Ty.c t):=rfl
theorem ty0 (t:Ty):ldL (Ty.c t) 0 none=some (.p (.sl t.ps.length (qaQ Bs.cells t.ps))):=rfl
theorem ty1 (t:Ty):ldL (Ty.c t) 1 none=some (bl t.res.cell):=rfl
theorem ty2 (t:Ty):ldL (Ty.c t) 2 none=some (i64 t.res.n):=rfl
theorem quf {a b:Nat}:(Int.ofNat a=Int.ofNat b)=(a=b):=by simp only[zaf,eq_iff_iff];omega
theorem qxR (l:List Sn)(hl:l.length<=1000000)(t:Tm)(ht:t.ks.length<=1000000)(lab:Int)(f:Tm->Bs->Bool)(hf:∀u∈t.ks,∀p:Bs,PC CP 68 [u.v,p.v,sw l,i64 lab] (bl (f u p))):PC CP 172 [t.v,sw l,i64 lab] (i64 (usR l t f)):=by
 refine PC.of2 (cf:=cf172) (np:=3) (args':=[t.v,sw l,i64 lab]) (by kernel_rfl) (by kernel_rfl) rfl (by first|rfl|(simp only[zap,qak];rfl)) (by first|rfl|(simp only[zam,qai];rfl)) (fun lo=>by first|rfl|exact qaM lo _|exact qaW lo _|exact qcf lo _ _) (Ev.mono ((Ev.all (t.ks.zip ((qeg l t.i).getD ⟨⟨[],⟨false,0⟩⟩,false,false⟩).ty.ps) (fun x hx=>hf x.1 (List.of_mem_zip hx).1 x.2)).and (Ev.ge (t.ks.length+1))) fun N ⟨h68,hn⟩ E s=>⟨i64 (usR l t f),s,(s172_eq _ _ _ _ _ _).trans ?_,(by first|rfl|exact qai _|exact qaP _|exact qb5 _ _)⟩)
 unfold s172 s172_2 s172_1 usR
 cases h:qeg l t.i with
 |none=>
  by_cases h1:t.i<1
  ·simp -implicitDefEqProofs only[h1,qah,qcL,qbj,qad,qao,qaG,qa2,decide_true,qaa,cond_true,qaj,zab,zaa,qbq]
  ·have h2:Int.ofNat l.length<t.i:=by rcases quc h with h|h;exact absurd h h1;exact h
   simp -implicitDefEqProofs only[h1,h2,qah,qcL,qbj,qad,qao,qaG,qa2,decide_true,decide_false,qaa,cond_true,cond_false,qaj,zab,zaa,qbq]
 |some x=>
  rw[h] at h68
  simp only[zaE] at h68
  obtain⟨j,hj0,hj,hx⟩:=qk9 h
  obtain⟨h1,h2,h3⟩:=qwd hj hl
  simp -implicitDefEqProofs only[hj0,h1,h2,h3,qbR hj,snty _ _ hx,qsP _ _ hx,tyc,tyo,ty0,ty1,qah,qcL,qbj,qad,qa1,qao,qaG,qa2,decide_false,qaa,cond_true,cond_false,qaj,zab,zaa,qab,qbq]
  cases hax:x.arg
  ·cases hcx:x.ty.res.cell
   ·by_cases hlen:x.ty.ps.length=t.ks.length
    ·simp only[hlen,if_false,zai,decide_true,zak,cond_false]
     unfold s172_0
     generalize hF:(fun(h16:zA->ASt->Res) (x14:zA) (s15:ASt)=>_)=F
     refine(qck _ F t.ks.length (fun j L=>L (i64 (.ofNat j)) s) (fun j=>some (i64 (if qbv f (t.ks.drop j) (x.ty.ps.drop j) then x.ty.res.n else 0),s)) (fun j L hj ih=>?_) (fun L=>?_) N 0 (zaY _) (by omega))
     ·subst hF
      have hjp:j<x.ty.ps.length:=by omega
      have hk:t.ks[j]? =some t.ks[j]:=zah hj
      have hp:x.ty.ps[j]? =some x.ty.ps[j]:=zah hjp
      have hm:(t.ks[j],x.ty.ps[j])∈t.ks.zip x.ty.ps:=by
       rw[List.mem_iff_getElem]
       exact⟨j,by rw[List.length_zip];omega,List.getElem_zip⟩
      have hc:=h68 _ hm
      have hld:∀s,ldH (qag CP N E) s (.elem (qaQ Bs.cells x.ty.ps) (j*2)) (some 2)=some x.ty.ps[j].v:=fun s=>qdr (c:=Bs.cells) (sz:=2) (fun _=>rfl) _ s hp
      have hip:iaV 2 (.p (.sl t.ks.length (qaQ Bs.cells x.ty.ps))) (i64 (.ofNat j))=some (qaQ Bs.cells x.ty.ps,j*2):=by rw[<-hlen];exact qbR hjp
      rw[zaz hj,zaz hjp]
      simp only[qbv]
      simp -implicitDefEqProofs only[ty0,hlen,of_lt.2 hj,Tm.ia_kid hj,Tm.ld_kid _ _ hk,hip,hld,hc,qaN (show j<9223372036854775807 by omega),qbj,qad,qao,qaw,decide_true,qaa,cond_true,zab,zaa,qab,qam,qbq]
      by_cases g:f t.ks[j] x.ty.ps[j]=true
      ·simp only[g,zak,cond_false,zay]
       exact ih
      ·simp only[zaS] at g
       simp only[g,zal,cond_true,zav,if_false,zai]
     ·subst hF
      have h3:¬(Int.ofNat t.ks.length<Int.ofNat t.ks.length):=fun h=>zaX _ (of_lt.1 h)
      rw[List.drop_of_length_le (zan _),List.drop_of_length_le (by omega)]
      simp only[ty2,h3,qbv,if_true,qbj,qad,qao,qaw,decide_false,qaa,cond_false,zab,zaa,qbq]
    ·have:=qfX f t.ks x.ty.ps (fun h=>hlen h.symm)
     simp only[this,quf,hlen,if_false,zai,decide_false,zal,cond_true,cond_false]
   ·simp only[if_true,if_false,zai,cond_true,cond_false]
  ·simp only[if_true,cond_true]
end Go.AI.Tryz
namespace Go.AI.Tryz
def snD:Sn:=⟨⟨[],⟨false,0⟩⟩,false,false⟩
def tlR (l:List Sn)(lab:Int)(t:Tm)(z:List Int)(f:Tm->Bs->Bool):Int:=
 if t.k=1 then(if qbd t.m&&qbh t.n t.m then t.m else 0)
 else if t.k=2 then usR l t f
 else if t.k=3 then(if qcm l t.i 0 then((qeg l t.i).getD snD).ty.res.n else 0)
 else if t.k=4 then(if qcm l t.i (z[0]?.getD 0) then 1 else 0)
 else if t.k=5 then(if t.n<1\/5<t.n\/qbd t.m=false\/z[0]?.getD 0≠t.m\/z[1]?.getD 0≠t.m then 0 else if 4<=t.n then 2 else t.m)
 else if t.k=18 then(if qcm l t.i 0&&(((qeg l t.i).getD snD).new&&qbh t.n ((qeg l t.i).getD snD).ty.res.n) then z[0]?.getD 0 else 0)
 else if t.k=15 then(match qeg l t.i with
  |none=>0
  |some x=>if x.arg then x.ty.res.n else 0)
 else flR t.k t.n t.m lab z
theorem qhE {l:List Sn}{i z:Int}(h:qcm l i z=true):∃x,qeg l i=some x:=by
 unfold qcm at h
 cases hx:qeg l i with
 |none=>rw[hx] at h;cases h
 |some x=>exact⟨x,rfl⟩
theorem qwh {N:Nat}{E:qaR}(l:List Sn)(hl:l.length<=1000000)(t:Tm)(lab:Int)(z:List Int)(f:Tm->Bs->Bool)(x8:zA)(hx:∀i,iaV 1 x8 i=iaV 1 (iv z) i)(he:qaD x8=iv z)
  (h1:t.k=4\/t.k=18->z.length=1)(h2:t.k=5->z.length=2)
  (c118:∀w,w=0\/w=z[0]?.getD 0->∀s,cl (qag CP N E) 118 [sw l,i64 t.i,i64 w] s=some (bl (qcm l t.i w),s))(c171:∀s,cl (qag CP N E) 171 [i64 t.m] s=some (bl (qbd t.m),s))
  (c172:t.k=2->∀s,cl (qag CP N E) 172 [t.v,sw l,i64 lab] s=some (i64 (usR l t f),s))(c173:∀s,cl (qag CP N E) 173 [t.v,x8,i64 lab] s=some (i64 (flR t.k t.n t.m lab z),s))(s:ASt):
  s116_8 (qag CP N E) N t.c (sw l) (i64 lab) x8 s=some (i64 (tlR l lab t z f),s):=by
 have hk:t.k=1\/t.k=2\/t.k=3\/t.k=4\/t.k=5\/t.k=18\/t.k=15\/(t.k≠1/\t.k≠2/\t.k≠3/\t.k≠4/\t.k≠5/\t.k≠18/\t.k≠15):=by omega
 unfold s116_8 s116_7 s116_6 s116_5 s116_4 s116_3 s116_2 s116_1 s116_0 tlR
 rcases hk with h|h|h|h|h|h|h|h
 ·simp -implicitDefEqProofs only[h,c171,if_true,qbh,qaU,qbc,qb1,qef,qcL,qad,qaf,qao,qaG,qbl,qa7,qa2,zaj,decide_true,decide_false,qaa,cond_true,cond_false,qaj,zab,zaa,qab,qam,qbq]
  cases qbd t.m
  ·simp only[cond_false,zav,zai,if_false]
  ·by_cases g:t.n<0<;>by_cases g':t.n<t.m<;>simp only[g,g',decide_true,decide_false,zak,zal,zat,zaT,zav,cond_true,cond_false,if_true,if_false,zai]
 ·have c172:=c172 h
  simp -implicitDefEqProofs only[h,c172,if_true,if_false,qaU,qbc,qb1,qef,qcL,qad,qaf,qao,qaG,qbl,qa7,qa2,zaj,decide_true,decide_false,qaa,cond_true,cond_false,qaj,zab,zaa,qab,qbq]
 ·have c118:=c118 0 (.inl rfl)
  by_cases hc:qcm l t.i 0=true
  ·obtain⟨x,hg⟩:=qhE hc
   obtain⟨j,hj0,hj,hxx⟩:=qk9 hg
   obtain⟨g1,g2,g3⟩:=qwd hj hl
   rw[hg]
   simp only[hj0] at hc c118⊢
   simp -implicitDefEqProofs only[h,hc,hj0,c118,g3,qbR hj,qqt _ _ hxx,if_true,if_false,qaU,qbc,qb1,qef,qcL,qad,qaf,qao,qaG,qbl,qa7,qa2,zaj,decide_true,decide_false,qaa,cond_true,cond_false,qaj,zab,zaa,qab,qbq,zaE]
  ·simp only[zaS] at hc
   simp -implicitDefEqProofs only[h,hc,c118,if_true,if_false,zai,qaU,qbc,qb1,qef,qcL,qad,qaf,qao,qaG,qbl,qa7,qa2,zaj,decide_true,decide_false,qaa,cond_true,cond_false,qaj,zab,zaa,qab,qbq]
 ·match z,h1 (.inl h) with
  |[a],_=>
   obtain⟨i0,l0⟩:=que (qag CP N E) (a:=a) (r:=[])
   have c118:=c118 a (.inr rfl)
   simp -implicitDefEqProofs only[h,hx,i0,l0,c118,if_true,if_false,zas,zaO,qaU,qbc,qb1,qef,qcL,qad,qaf,qa1,qao,qaG,qbl,qa7,qa2,zaj,decide_true,decide_false,qaa,cond_true,cond_false,qaj,zab,zaa,qab,qbq,zaE]
   cases qcm l t.i a<;>rfl
 ·match z,h2 h with
  |[a,b],_=>
   obtain⟨i0,l0⟩:=que (qag CP N E) (a:=a) (r:=[b])
   obtain⟨i1,l1⟩:=quP (qag CP N E) (a:=a) (b:=b) (r:=[])
   simp -implicitDefEqProofs only[h,hx,i0,l0,i1,l1,c171,if_true,if_false,zas,zaO,qaU,qbc,qb1,qef,qcL,qad,qaf,qa1,qao,qaG,qbl,qa7,qa2,zaj,decide_true,decide_false,qaa,cond_true,cond_false,qaj,zab,zaa,qab,qam,qbq,zaE]
   by_cases g1:t.n<1
   ·simp only[g1,true_or,if_true,decide_true,cond_true]
   ·by_cases g2:5<t.n
    ·simp only[g1,g2,true_or,or_true,if_true,decide_true,decide_false,cond_true,cond_false]
    ·cases qbd t.m
     ·simp only[g1,g2,true_or,or_true,if_true,decide_false,zal,cond_true,cond_false]
     ·by_cases g3:a=t.m
      ·by_cases g4:b=t.m
       ·by_cases g5:t.n<4
        ·have:¬4≤t.n:=by omega
         simp only[g1,g2,g3,g4,g5,this,ne_eq,not_true_eq_false,or_false,Bool.true_eq_false,if_false,decide_true,decide_false,zak,cond_false]
        ·have:4≤t.n:=by omega
         simp only[g1,g2,g3,g4,g5,this,ne_eq,not_true_eq_false,or_false,Bool.true_eq_false,if_false,if_true,decide_true,decide_false,zak,zal,cond_true,cond_false]
       ·simp only[g1,g2,g3,g4,ne_eq,not_false_eq_true,or_true,if_true,decide_true,decide_false,zak,zal,cond_true,cond_false]
      ·simp only[g1,g2,g3,ne_eq,not_false_eq_true,true_or,or_true,if_true,decide_false,zak,zal,cond_true,cond_false]
 ·match z,h1 (.inr h) with
  |[a],_=>
   obtain⟨i0,l0⟩:=que (qag CP N E) (a:=a) (r:=[])
   have c118:=c118 0 (.inl rfl)
   by_cases hc:qcm l t.i 0=true
   ·obtain⟨x,hg⟩:=qhE hc
    obtain⟨j,hj0,hj,hxx⟩:=qk9 hg
    obtain⟨g1,g2,g3⟩:=qwd hj hl
    rw[hg]
    simp only[hj0] at hc c118⊢
    simp -implicitDefEqProofs only[h,hx,i0,l0,hc,hj0,c118,g3,qbR hj,qqt _ _ hxx,qwf _ _ hxx,qbh,if_true,if_false,zay,zas,qaU,qbc,qb1,qef,qcL,qad,qaf,qa1,qao,qaG,qbl,qa7,qa2,zaj,decide_true,decide_false,qaa,cond_true,cond_false,qaj,zab,zaa,qab,qbq,zaE]
    by_cases q1:x.new=true
    ·by_cases g:t.n<0<;>by_cases g':t.n<x.ty.res.n<;>simp only[q1,g,g',decide_true,decide_false,zak,zal,zat,zaT,zav,cond_true,cond_false,if_true,if_false,zai]
    ·simp only[zaS] at q1
     simp only[q1,zav,cond_false,if_false,zai]
   ·simp only[zaS] at hc
    simp -implicitDefEqProofs only[h,hc,c118,if_true,if_false,zav,zai,qaU,qbc,qb1,qef,qcL,qad,qaf,qao,qaG,qbl,qa7,qa2,zaj,decide_true,decide_false,qaa,cond_true,cond_false,qaj,zab,zaa,qab,qbq]
 ·cases hg:qeg l t.i with
  |none=>
   by_cases h1:t.i<1
   ·simp -implicitDefEqProofs only[h,h1,if_true,if_false,qaU,qbc,qb1,qef,qcL,qad,qaf,qao,qaG,qbl,qa7,qa2,zaj,decide_true,decide_false,zak,qaa,cond_true,cond_false,qaj,zab,zaa,qbq,zaR]
   ·have h2:Int.ofNat l.length<t.i:=by rcases quc hg with h|h;exact absurd h h1;exact h
    simp -implicitDefEqProofs only[h,h1,h2,if_true,if_false,qaU,qbc,qb1,qef,qcL,qad,qaf,qao,qaG,qbl,qa7,qa2,zaj,decide_true,decide_false,zak,zal,qaa,cond_true,cond_false,qaj,zab,zaa,qbq,zaR]
  |some x=>
   obtain⟨j,hj0,hj,hxx⟩:=qk9 hg
   obtain⟨g1,g2,g3⟩:=qwd hj hl
   simp -implicitDefEqProofs only[h,hj0,g1,g2,g3,qbR hj,qqt _ _ hxx,qsP _ _ hxx,if_true,if_false,qaU,qbc,qb1,qef,qcL,qad,qaf,qao,qaG,qbl,qa7,qa2,zaj,decide_true,decide_false,zal,qaa,cond_true,cond_false,qaj,zab,zaa,qab,qbq,zaE]
   cases x.arg<;>rfl
 ·simp -implicitDefEqProofs only[h,c173,if_false,qaU,qbc,qb1,qef,qcL,qad,qaf,qao,qaG,qbl,qa7,qa2,decide_false,qaa,cond_true,cond_false,qaj,zab,zaa,qab,qbq]
end Go.AI.Tryz
namespace Go.AI.Tryz
def kl (l:List Sn)(t:Tm):List Sn:=if t.k=10 then l++[Sn.cell t.n] else l
def qnt (lab:Int)(t:Tm)(j:Nat):Int:=if t.k=11/\j=0 then lab+1 else lab
theorem qxS {p:Nat->Prop}:∀n,p n->∃m,m<=n/\p m/\∀i,i<m->¬p i:=by
 intro n
 induction n using Nat.strongRecOn with
 |_ n ih=>
  intro hn
  by_cases h:∃i,i<n/\p i
  ·obtain⟨i,hi,hp⟩:=h
   obtain⟨m,h1,h2,h3⟩:=ih i hi hp
   exact⟨m,by omega,h2,h3⟩
  ·exact⟨n,zan _,hn,fun i hi hp=>h ⟨i,hi,hp⟩⟩
section
variable {N:Nat} {E:qaR} {l:List Sn} {t:Tm} {lab:Int} {Z:List Int} (hl0:0<=lab) (hl1:lab<=1000000) (ht:t.ks.length<=1000000) (hZ:Z.length=t.ks.length)
 (c122:∀s,cl (qag CP N E) 122 [i64 t.n] s=some ((Sn.cell t.n).v,s)) (c119:∀s,cl (qag CP N E) 119 [sw l,(Sn.cell t.n).v] s=some (sw (l++[Sn.cell t.n]),s))
 (c116:∀j,∀hj:j<t.ks.length,∀s,cl (qag CP N E) 116 [t.ks[j].v,sw (kl l t),i64 (qnt lab t j)] s=some (i64 (Z[j]'(by omega)),s)) (J:zA->ASt->Res)
include hl0 hl1 ht hZ c122 c119 c116
theorem qfk (j:Nat)(hj:j<t.ks.length)(s:ASt)(h126:zA->zA->ASt->Res):(ldL t.c 4 none).bind (fun x127=>(ln false x127).bind fun x128=>(bn .lss (i64 (.ofNat j)) x128).bind fun x129=>
  qae x129 ((ldL t.c 0 none).bind fun x130=>(bn .eql x130 (u8 10)).bind fun x131=>jn (s116_11 (qag CP N E) N t.c (i64 (.ofNat j)) (qb0 (fun j=>qaQ qcZ (Z.take j)) s.ntok j) h126 (i64 lab)) fun j153=>
  qae x131 ((ldL t.c 1 none).bind fun x154=>qac (cl (qag CP N E) 122 [x154] (qc6 s 1 j)) fun x155 s156=>qac (cl (qag CP N E) 119 [sw l,x155] s156) fun x157 s158=>j153 x157 s158) (j153 (sw l) (qc6 s 1 j)))
  (J (qb0 (fun j=>qaQ qcZ (Z.take j)) s.ntok j) (qc6 s 1 j)))=if Z[j]'(by omega)=0 then some (i64 0,qc6 s 1 j) else h126 (qb0 (fun j=>qaQ qcZ (Z.take j)) s.ntok (j+1)) (i64 (.ofNat (j+1))) (qc6 s 1 (j+1)):=by
 have hk:t.ks[j]? =some t.ks[j]:=zah hj
 have hc:=c116 j hj
 have hw:qbb .i64 (lab+1)=lab+1:=qbu (by omega) (by omega)
 have hms:∀a:Int,ms 1 [.int .i64 0] [(0,none,.c (i64 a))]=some (.sl 1 (qcZ a) .full):=fun _=>rfl
 have hap:=qeV (qag CP N E) (sz:=1) (b:=8) (f:=fun j=>qaQ qcZ (Z.take j)) (y:=.sl 1 (qcZ (Z[j]'(by omega))) .full) s j rfl rfl (by omega) (qbQ (c:=qcZ) (by omega))
 have e0:(Int.ofNat j=0)=(j=0):=by simp only[zaf,eq_iff_iff];omega
 have fin:∀(x1 x2:zA),x1=sw (kl l t)->x2=i64 (qnt lab t j)->s116_9 (qag CP N E) N t.c (i64 (.ofNat j)) (qc6 s 1 j) x1 (qb0 (fun j=>qaQ qcZ (Z.take j)) s.ntok j) h126 x2=if Z[j]'(by omega)=0 then some (i64 0,qc6 s 1 j) else h126 (qb0 (fun j=>qaQ qcZ (Z.take j)) s.ntok (j+1)) (i64 (.ofNat (j+1))) (qc6 s 1 (j+1)):=by
  rintro _ _ rfl rfl
  unfold s116_9
  simp -implicitDefEqProofs only[Tm.ia_kid hj,Tm.ld_kid _ _ hk,hc,hms,hap,qaN (show j<9223372036854775807 by omega),qbj,qad,qaf,qaw,qaa,zab,zaa,qab]
  by_cases g:Z[j]'(by omega)=0
  ·simp only[g,if_true,decide_true,cond_true]
  ·simp only[g,if_false,decide_false,cond_false]
 have h11:∀x1,x1=sw (kl l t)->s116_11 (qag CP N E) N t.c (i64 (.ofNat j)) (qb0 (fun j=>qaQ qcZ (Z.take j)) s.ntok j) h126 (i64 lab) x1 (qc6 s 1 j)=if Z[j]'(by omega)=0 then some (i64 0,qc6 s 1 j) else h126 (qb0 (fun j=>qaQ qcZ (Z.take j)) s.ntok (j+1)) (i64 (.ofNat (j+1))) (qc6 s 1 (j+1)):=by
  rintro x1 hx1
  unfold s116_11 s116_10
  generalize s116_9 (qag CP N E) N=G at fin⊢
  by_cases h:t.k=11
  ·by_cases g:j=0
   ·have:=fin x1 (i64 (lab+1)) hx1 (by unfold qnt;rw[if_pos ⟨h,g⟩])
    simp -implicitDefEqProofs only[h,g,hw,qbc,qad,qaf,qaw,decide_true,qaa,cond_true,qaj,zab,zaa]
    simp only[g] at this
    exact this
   ·have:=fin x1 (i64 lab) hx1 (by unfold qnt;rw[if_neg (fun q=>g q.2)])
    simp -implicitDefEqProofs only[h,e0,g,hw,this,qbc,qad,qaf,qaw,decide_true,decide_false,qaa,cond_true,cond_false,qaj,zab,zaa]
  ·have:=fin x1 (i64 lab) hx1 (by unfold qnt;rw[if_neg (fun q=>h q.1)])
   simp -implicitDefEqProofs only[h,e0,hw,this,qbc,qad,qaf,qaw,decide_false,qaa,cond_false,qaj,zab,zaa]
 generalize s116_11 (qag CP N E) N=G at h11⊢
 by_cases h:t.k=10
 ·have:=h11 (sw (l++[Sn.cell t.n])) (by unfold kl;rw[if_pos h])
  simp -implicitDefEqProofs only[h,of_lt.2 hj,c122,c119,this,qbc,qb1,qbj,qad,qaf,qao,decide_true,qaa,cond_true,qaj,zab,zaa,qab,qbq]
 ·have:=h11 (sw l) (by unfold kl;rw[if_neg h])
  simp -implicitDefEqProofs only[h,of_lt.2 hj,this,qbc,qb1,qbj,qad,qaf,qao,decide_true,decide_false,qaa,cond_true,cond_false,qaj,zab,zaa,qbq]
end
end Go.AI.Tryz
namespace Go.AI.Tryz
section
variable {N:Nat} {E:qaR} {l:List Sn} {t:Tm} {lab:Int} {Z:List Int} (hl0:0<=lab) (hl1:lab<=1000000) (ht:t.ks.length<=1000000) (hZ:Z.length=t.ks.length)
 (c122:∀s,cl (qag CP N E) 122 [i64 t.n] s=some ((Sn.cell t.n).v,s)) (c119:∀s,cl (qag CP N E) 119 [sw l,(Sn.cell t.n).v] s=some (sw (l++[Sn.cell t.n]),s))
 (c116:∀j,∀hj:j<t.ks.length,∀s,cl (qag CP N E) 116 [t.ks[j].v,sw (kl l t),i64 (qnt lab t j)] s=some (i64 (Z[j]'(by omega)),s)) (J:zA->ASt->Res) (hN:t.ks.length+1<=N)
include hl0 hl1 ht hZ c122 c119 c116 hN
theorem qqv (hnz:∀j,∀hj:j<t.ks.length,Z[j]'(by omega)≠0)(s:ASt):s116_12 (qag CP N E) N t.c (i64 lab) (sw l) J (.sl 0 [] .full) (i64 0) s=J (qb0 (fun j=>qaQ qcZ (Z.take j)) s.ntok t.ks.length) (qc6 s 1 t.ks.length):=by
 unfold s116_12
 refine qck _ _ t.ks.length (fun j (L:zA->zA->ASt->Res)=>L (qb0 (fun j=>qaQ qcZ (Z.take j)) s.ntok j) (i64 (.ofNat j)) (qc6 s 1 j)) (fun _=>J (qb0 (fun j=>qaQ qcZ (Z.take j)) s.ntok t.ks.length) (qc6 s 1 t.ks.length)) (fun j L hj ih=>?_) (fun L=>?_) N 0 (zaY _) (by omega)
 ·refine(qfk hl0 hl1 ht hZ c122 c119 c116 J j hj s L).trans ?_
  rw[if_neg (hnz j hj)]
  exact ih
 ·have h3:¬(Int.ofNat t.ks.length<Int.ofNat t.ks.length):=fun h=>zaX _ (of_lt.1 h)
  generalize s116_11 (qag CP N E) N=G
  simp -implicitDefEqProofs only[h3,qbc,qb1,qbj,qad,qaf,qao,decide_false,qaa,cond_false,qaj,zab,zaa,qbq]
theorem qqw (hz:∃j,∃hj:j<t.ks.length,Z[j]'(by omega)=0)(s:ASt):∃s',s116_12 (qag CP N E) N t.c (i64 lab) (sw l) J (.sl 0 [] .full) (i64 0) s=some (i64 0,s'):=by
 obtain⟨j0,hj0,hz0⟩:=hz
 obtain⟨m,_,⟨hm,hm0⟩,hlt⟩:=qxS (p:=fun j=>∃hj:j<t.ks.length,Z[j]'(by omega)=0) j0 ⟨hj0,hz0⟩
 refine⟨qc6 s 1 m,?_⟩
 unfold s116_12
 refine qck _ _ m (fun j (L:zA->zA->ASt->Res)=>L (qb0 (fun j=>qaQ qcZ (Z.take j)) s.ntok j) (i64 (.ofNat j)) (qc6 s 1 j)) (fun _=>some (i64 0,qc6 s 1 m)) (fun j L hj ih=>?_) (fun L=>?_) N 0 (zaY _) (by omega)
 ·refine(qfk hl0 hl1 ht hZ c122 c119 c116 J j (by omega) s L).trans ?_
  rw[if_neg (fun h=>hlt j hj ⟨by omega,h⟩)]
  exact ih
 ·refine(qfk hl0 hl1 ht hZ c122 c119 c116 J m hm s L).trans ?_
  rw[if_pos hm0]
end
def szR (l:List Sn)(lab:Int)(t:Tm)(z:List Int)(f:Tm->Bs->Bool):Int:=
 if fR t=false then 0 else if 0<=kR t.k/\kR t.k≠Int.ofNat t.ks.length then 0 else if t.k≠2/\t.k≠17/\0∈z then 0 else tlR l lab t z f
theorem qug (f:Nat->List zP)(h0:f 0=[])(k m:Nat)(i:zA):iaV 1 (qb0 f k m) i=iaV 1 (.p (.sl m (f m))) i:=by
 cases m with
 |zero=>rw[h0];rfl
 |succ m=>rfl
theorem quh (l:List Sn)(hl:l.length<=999999)(t:Tm)(ht:t.ks.length<=1000000)(lab:Int)(hl0:0<=lab)(hl1:lab<=1000000)(Z:List Int)(f:Tm->Bs->Bool)
  (hZ:t.k≠2->t.k≠17->Z.length=t.ks.length)(hc:t.k≠2->t.k≠17->∀x∈(List.range t.ks.length),∀u z,t.ks[x]? =some u->Z[x]? =some z->PC CP 116 [u.v,sw (kl l t),i64 (qnt lab t x)] (i64 z))
  (hf:∀u∈t.ks,∀p:Bs,t.k=2->PC CP 68 [u.v,p.v,sw l,i64 lab] (bl (f u p)))(h17:t.k=2\/t.k=17->Z=[]):PC CP 116 [t.v,sw l,i64 lab] (i64 (szR l lab t Z f)):=by
 have evf:=qlb t
 have evk:=qr3 t.k
 by_cases hform:fR t=true/\¬(0<=kR t.k/\kR t.k≠Int.ofNat t.ks.length)
 ·have hz1:t.k=4∨t.k=18∨t.k=10→t.ks.length=1:=fun h=>by
   have:=hform.2
   have hk:kR t.k=1:=by rcases h with h|h|h<;>simp[kR,h]
   rw[hk] at this
   simp only[zaf] at this
   omega
  have hz2:t.k=5\/t.k=7\/t.k=9\/t.k=11\/t.k=13->t.ks.length=2:=fun h=>by
   have:=hform.2
   have hk:kR t.k=2:=by rcases h with h|h|h|h|h<;>simp[kR,h]
   rw[hk] at this
   simp only[zaf] at this
   omega
  have hz3:t.k=8->t.ks.length=3:=fun h=>by
   have:=hform.2
   have hk:kR t.k=3:=by simp[kR,h]
   rw[hk] at this
   simp only[zaf] at this
   omega
  have hlen:t.k≠2->t.k≠17->Z.length=t.ks.length:=hZ
  have e173:=qwg t lab Z (fun h=>by rw[hlen (by omega) (by omega)];exact hz2 (by omega)) (fun h=>by rw[hlen (by omega) (by omega)];exact hz3 h) (fun h=>by rw[hlen (by omega) (by omega)];exact hz1 (by omega))
  have e172:Ev fun n=>t.k=2->∀E s,cl (qag CP n E) 172 [t.v,sw l,i64 lab] s=some (i64 (usR l t f),s):=by
   by_cases h:t.k=2
   ·exact(qxR l (by omega) t ht lab f (fun u hu p=>hf u hu p h)).mono fun n hn _=>hn
   ·exact ev0.mono fun n _ h'=>absurd h' h
  have e116:Ev fun n=>t.k≠2->t.k≠17->∀x∈List.range t.ks.length,∀u z,t.ks[x]? =some u->Z[x]? =some z->∀E s,cl (qag CP n E) 116 [u.v,sw (kl l t),i64 (qnt lab t x)] s=some (i64 z,s):=by
   by_cases h:t.k≠2/\t.k≠17
   ·have:=Ev.all (List.range t.ks.length) (fun x hx=>(show Ev fun n=>∀u z,t.ks[x]? =some u→Z[x]? =some z→∀E s,cl (qag CP n E) 116 [u.v,sw (kl l t),i64 (qnt lab t x)] s=some (i64 z,s) from by
     have hxl:=zba.1 hx
     have hzl:=hlen h.1 h.2
     exact(hc h.1 h.2 x hx t.ks[x] (Z[x]'(by omega)) (zah _) (zah _)).mono fun n hn u z hu hz=>by
      rw[zah hxl] at hu
      rw[zah (by omega)] at hz
      cases hu;cases hz
      exact hn))
    exact this.mono fun n hn _ _=>hn
   ·exact ev0.mono fun n _ h1 h2=>absurd ⟨h1,h2⟩ h
  refine PC.of2 (cf:=cf116) (np:=3) (args':=[t.v,sw l,i64 lab]) (by kernel_rfl) (by kernel_rfl) rfl (by simp only[zap,qak];rfl) (by simp only[zam,qai];rfl) (fun _=>rfl)
   (((evf.and evk).and ((e172.and (e173.and e116)).and (((qjG l (by omega) t.i 0).and (qjG l (by omega) t.i (Z[0]?.getD 0))).and (((qla t.m).and (qqu t.n)).and ((qjH l (by omega) (Sn.cell t.n)).and (Ev.ge (t.ks.length+1))))))).mono
    fun N ⟨⟨c117,c170⟩,⟨c172,c173,c116⟩,⟨c118,c118'⟩,⟨c171,c122⟩,c119,hN⟩ E s=>?_)
  have c118c:∀w,w=0\/w=Z[0]?.getD 0->∀s,cl (qag CP N E) 118 [sw l,i64 t.i,i64 w] s=some (bl (qcm l t.i w),s):=by
   rintro w (rfl|rfl) s
   ·exact c118 E s
   ·exact c118' E s
  have hbeg:∀r,s116_13 (qag CP N E) N t.c (sw l) (i64 lab) s (bl (decide (t.k≠2/\t.k≠17)))=some r->s116 (qag CP N E) N t.v (sw l) (i64 lab) s=some r:=fun r hr=>by
   unfold s116 s116_14
   generalize s116_13 (qag CP N E) N=G at hr⊢
   have hj:∀b,(bif b then some (i64 0,s) else(bn .neq (u8 t.k) (u8 2)).bind fun x=>qae x ((bn .neq (u8 t.k) (u8 17)).bind fun y=>G t.c (sw l) (i64 lab) s y) (G t.c (sw l) (i64 lab) s (bl false)))=if b=true then some (i64 0,s) else some r:=by
    rintro (_|_)
    ·simp only[cond_false,zai,if_false,qad,qa1,qaa,cond_false,zab,zaa]
     by_cases h2:t.k=2
     ·simp only[h2,ne_eq,not_true_eq_false,false_and,zaj,decide_true,decide_false,zak,zal,cond_false] at hr⊢;exact hr
     ·by_cases h3:t.k=17
      ·simp only[h3,ne_eq,not_true_eq_false,and_false,zaj,not_false_eq_true,zaj,decide_true,decide_false,zak,zal,cond_true] at hr⊢;exact hr
      ·simp only[h2,h3,ne_eq,not_false_eq_true,and_self,decide_true,decide_false,zal,cond_true] at hr⊢;exact hr
    ·rfl
   have g2:=hform.2
   by_cases g:0<=kR t.k
   ·have g3:kR t.k=Int.ofNat t.ks.length:=by
     by_cases q:kR t.k=Int.ofNat t.ks.length
     ·exact q
     ·exact absurd ⟨g,q⟩ g2
    have g4:¬kR t.k<0:=by omega
    have:=hj false
    simp only[cond_false,zai,if_false] at this
    simp -implicitDefEqProofs only[c117,c170,hform.1,g3,qah,qaU,qbc,qbj,qad,qa1,qa7,decide_true,zak,qaa,cond_true,cond_false,qaj,zab,zaa,qab,qam,qbq]
    simp only[qad,qa1,qaa,zab,zaa] at this
    exact this
   ·have g4:kR t.k<0:=by omega
    have:=hj false
    simp only[cond_false,zai,if_false] at this
    simp -implicitDefEqProofs only[c117,c170,hform.1,g4,qah,qaU,qbc,qbj,qad,qa1,qa7,decide_true,zak,qaa,cond_true,cond_false,qaj,zab,zaa,qab,qam,qbq]
    simp only[qad,qa1,qaa,zab,zaa] at this
    exact this
  have h173:∀x8,qaD x8=iv Z->∀s,cl (qag CP N E) 173 [t.v,x8,i64 lab] s=some (i64 (flR t.k t.n t.m lab Z),s):=fun x8 he s=>by
   have:=qfC (CP:=CP) (f:=173) (cf:=cf173) (by kernel_rfl) (by kernel_rfl) N E [t.v,x8,i64 lab] s
   rw[show[t.v,x8,i64 lab].map qaD=[t.v,iv Z,i64 lab] by simp only[zam,zbn,qai,he];rfl,c173 E s] at this
   exact this
  have htail:∀x8,(∀i,iaV 1 x8 i=iaV 1 (iv Z) i)->qaD x8=iv Z->∀s,s116_8 (qag CP N E) N t.c (sw l) (i64 lab) x8 s=some (i64 (tlR l lab t Z f),s):=fun x8 hx he s=>
   qwh l (by omega) t lab Z f x8 hx he (fun h=>by rw[hlen (by omega) (by omega)];exact hz1 (by omega)) (fun h=>by rw[hlen (by omega) (by omega)];exact hz2 (by omega)) c118c (fun s=>c171 E s) (fun h s=>c172 h E s) (h173 x8 he) s
  have hsz:∃s',s116_13 (qag CP N E) N t.c (sw l) (i64 lab) s (bl (decide (t.k≠2/\t.k≠17)))=some (i64 (szR l lab t Z f),s'):=by
   unfold s116_13 szR
   rw[if_neg (by rw[hform.1];simp),if_neg hform.2]
   by_cases h:t.k≠2/\t.k≠17
   ·have hzl:=hlen h.1 h.2
    have c116':∀j,∀hj:j<t.ks.length,∀s,cl (qag CP N E) 116 [t.ks[j].v,sw (kl l t),i64 (qnt lab t j)] s=some (i64 (Z[j]'(by omega)),s):=fun j hj s=>
     c116 h.1 h.2 j (zba.2 hj) _ _ (zah hj) (zah (by omega)) E s
    rw[qaj,decide_eq_true h,qaa,cond_true]
    by_cases hz:∃j,∃hj:j<t.ks.length,Z[j]'(by omega)=0
    ·obtain⟨s',hs'⟩:=qqw hl0 hl1 ht hzl (c122 E) (c119 E) c116' (s116_8 (qag CP N E) N t.c (sw l) (i64 lab)) hN hz s
     obtain⟨j,hj,hj0⟩:=hz
     rw[if_pos ⟨h.1,h.2,by rw[<-hj0];exact za4 _⟩]
     exact⟨s',hs'⟩
    ·have hne:∀j,∀hj:j<t.ks.length,Z[j]'(by omega)≠0:=fun j hj h0=>hz ⟨j,hj,h0⟩
     have:=qqv hl0 hl1 ht hzl (c122 E) (c119 E) c116' (s116_8 (qag CP N E) N t.c (sw l) (i64 lab)) hN hne s
     rw[this,if_neg (fun q=>by
      obtain⟨j,hj,h0⟩:=List.getElem_of_mem q.2.2
      exact hne j (by omega) h0)]
     have hfZ:qaQ qcZ (Z.take t.ks.length)=qaQ qcZ Z:=by rw[<-hzl,List.take_length]
     refine⟨_,htail _ (fun i=>?_) ?_ _⟩
     ·rw[qug _ rfl,hfZ,<-hzl]
     ·rw[qf8 _ _ _ rfl,hfZ,<-hzl]
   ·have hZ0:Z=[]:=h17 (by by_cases g:t.k=2;exact .inl g;exact .inr (by by_cases g':t.k=17;exact g';exact absurd ⟨g,g'⟩ h))
    rw[qaj,decide_eq_false h,qaa,cond_false,if_neg (fun q=>h ⟨q.1,q.2.1⟩)]
    exact⟨s,htail (.sl 0 [] .full) (fun i=>by rw[hZ0];rfl) (by rw[hZ0];rfl) s⟩
  obtain⟨s',hs'⟩:=hsz
  exact⟨_,s',(s116_eq _ _ _ _ _ _).trans (hbeg _ hs'),rfl⟩
 ·have hr:szR l lab t Z f=0:=by
   unfold szR
   by_cases h1:fR t=false
   ·rw[if_pos h1]
   ·rw[if_neg h1,if_pos]
    by_cases g:0<=kR t.k/\kR t.k≠Int.ofNat t.ks.length
    ·exact g
    ·exact absurd ⟨by simpa using h1,g⟩ hform
  rw[hr]
  refine PC.of2 (cf:=cf116) (np:=3) (args':=[t.v,sw l,i64 lab]) (by kernel_rfl) (by kernel_rfl) rfl (by simp only[zap,qak];rfl) (by simp only[zam,qai];rfl) (fun _=>rfl)
   ((evf.and evk).mono fun N ⟨c117,c170⟩ E s=>⟨i64 0,s,(s116_eq _ _ _ _ _ _).trans ?_,rfl⟩)
  unfold s116 s116_14
  generalize s116_13 (qag CP N E) N=G
  by_cases h1:fR t=true
  ·have g:0≤kR t.k∧kR t.k≠Int.ofNat t.ks.length:=by
    by_cases g:0<=kR t.k/\kR t.k≠Int.ofNat t.ks.length
    ·exact g
    ·exact absurd ⟨h1,g⟩ hform
   have g4:¬kR t.k<0:=by omega
   simp -implicitDefEqProofs only[c117,c170,h1,g4,g.2,qah,qaU,qbc,qbj,qad,qa1,qa7,decide_false,zak,zal,qaa,cond_true,cond_false,qaj,zab,zaa,qab,qam,qbq]
  ·simp only[zaS] at h1
   simp -implicitDefEqProofs only[c117,c170,h1,qah,qaU,qbc,qbj,qad,qa1,qa7,zal,qaa,cond_true,cond_false,qaj,zab,zaa,qab,qam,qbq]
end Go.AI.Tryz
namespace Go.AI.Tryz
theorem Ev.imp {c:Prop}{P:Nat->Prop}(h:c->Ev P):Ev fun n=>c->P n:=by
 by_cases hc:c
 ·exact(h hc).mono fun n hn _=>hn
 ·exact ev0.mono fun n _ h=>absurd h hc
def agR (l:List Sn)(t:Tm)(b:Bs)(zt z0 z1:Int):Bool:=
 if b.cell=false then !decide (t.k=16)&&(!decide (t.k=17)&&decide (zt=b.n))
 else if fR t=false then false
 else if t.k=16 then decide (Int.ofNat t.ks.length=0)&&qcm l t.i b.n
 else if t.k=17/\t.ks.length=2 then decide (z0=b.n)&&decide (z1=1) else false
theorem bsc (b:Bs):zA.cells (some 2) b.v=some [bl b.cell,i64 b.n]:=rfl
theorem bs0 (a b:zA):ldL [a,b] 0 none=some a:=rfl
theorem bs1 (a b:zA):ldL [a,b] 1 none=some b:=rfl
theorem qwi (l:List Sn)(hl:l.length<=999999)(t:Tm)(b:Bs)(lab:Int)(zt z0 z1:Int)(ht:b.cell=false/\t.k≠16/\t.k≠17->PC CP 116 [t.v,sw l,i64 lab] (i64 zt))(h0:b.cell=true/\t.k=17->∀x∈t.ks[0]?.toList,PC CP 116 [x.v,sw l,i64 lab] (i64 z0))(h1:b.cell=true/\t.k=17->∀x∈t.ks[1]?.toList,PC CP 116 [x.v,sw (l++[Sn.val b.n]),i64 lab] (i64 z1)):PC CP 68 [t.v,b.v,sw l,i64 lab] (bl (agR l t b zt z0 z1)):=by
 refine PC.of2 (cf:=cf68) (np:=4) (args':=[t.v,b.v,sw l,i64 lab]) (by kernel_rfl) (by kernel_rfl) rfl (by first|rfl|(simp only[zap,qak];rfl)) (by first|rfl|(simp only[zam,qai];rfl)) (fun lo=>by first|rfl|exact qaM lo _|exact qaW lo _|exact qcf lo _ _) (Ev.mono ((((Ev.imp ht).and (Ev.imp fun c=>Ev.all _ (h0 c))).and (Ev.imp fun c=>Ev.all _ (h1 c))).and ((qlb t).and ((qjG l (by omega) t.i b.n).and ((qsQ b.n).and (qjH l (by omega) (Sn.val b.n)))))) fun N ⟨⟨⟨ct,c0⟩,c1⟩,c117,c118,c120,c119⟩ E s=>⟨bl (agR l t b zt z0 z1),s,(s68_eq _ _ _ _ _ _ _).trans ?_,(by first|rfl|exact qai _|exact qaP _|exact qb5 _ _)⟩)
 unfold s68 s68_3 s68_2 s68_1 s68_0 agR
 cases hb:b.cell
 ·by_cases h16:t.k=16
  ·simp -implicitDefEqProofs only[bsc,bs0,bs1,hb,h16,if_true,zav,qah,qaU,qbc,qad,qa1,zaj,decide_true,decide_false,zak,zal,qaa,cond_true,cond_false,qaj,zab,zaa,qam]
  ·by_cases h17:t.k=17
   ·simp -implicitDefEqProofs only[bsc,bs0,bs1,hb,h17,if_true,zav,zay,qah,qaU,qbc,qad,qa1,zaj,decide_true,decide_false,zak,zal,qaa,cond_true,cond_false,qaj,zab,zaa,qam]
   ·have ct:=ct ⟨hb,h16,h17⟩
    simp -implicitDefEqProofs only[bsc,bs0,bs1,hb,h16,h17,ct,if_true,zay,qah,qaU,qbc,qad,qaf,qa1,decide_false,zal,qaa,cond_true,cond_false,qaj,zab,zaa,qab,qam]
 ·by_cases hf:fR t=true
  ·by_cases h16:t.k=16
   ·simp -implicitDefEqProofs only[bsc,bs0,bs1,hb,h16,hf,c117,c118,if_true,if_false,Bool.true_eq_false,qah,qaU,qbc,qcL,qbj,qad,qaf,zaj,decide_true,decide_false,zak,zal,qaa,cond_true,cond_false,qaj,zab,zaa,qab,qam,qbq]
    cases decide (Int.ofNat t.ks.length=0)<;>rfl
   ·by_cases h17:t.k=17
    ·by_cases h2:t.ks.length=2
     ·obtain⟨u,w,hks⟩:∃u w,t.ks=[u,w]:=by
       match t.ks,h2 with
       |[u,w],_=>exact⟨u,w,rfl⟩
      have c0:=c0 ⟨hb,h17⟩ u (by rw[hks];exact zaV.2 rfl)
      have c1:=c1 ⟨hb,h17⟩ w (by rw[hks];exact zaV.2 rfl)
      obtain⟨i0,l0⟩:=qb8 (n:=N) (E:=E) (l:=t.ks) (u:=u) (by rw[hks];rfl)
      obtain⟨i1,l1⟩:=qdz (n:=N) (E:=E) (l:=t.ks) (u:=w) (by rw[hks];rfl)
      have hlen:Int.ofNat t.ks.length=2:=by rw[h2];rfl
      simp -implicitDefEqProofs only[bsc,bs0,bs1,hb,h17,h2,hf,c117,i0,l0,i1,l1,c0,c1,c120,c119,if_true,if_false,and_self,Bool.true_eq_false,qah,qaU,qbc,qcL,qbj,qad,qaf,zaj,decide_true,decide_false,zak,zal,qaa,cond_true,cond_false,qaj,zab,zaa,qab,qam,qbq]
      cases decide (z0=b.n)<;>rfl
     ·have hlen:¬Int.ofNat t.ks.length=2:=by simp only[zaf];omega
      simp -implicitDefEqProofs only[bsc,bs0,bs1,hb,h17,h2,hlen,hf,c117,if_false,and_false,Bool.true_eq_false,qah,qaU,qbc,qcL,qbj,qad,qaf,zaj,decide_true,decide_false,zak,zal,qaa,cond_true,cond_false,qaj,zab,zaa,qab,qam,qbq]
    ·simp -implicitDefEqProofs only[bsc,bs0,bs1,hb,h16,h17,hf,c117,if_false,false_and,Bool.true_eq_false,qah,qaU,qbc,qcL,qbj,qad,qaf,decide_false,zak,zal,qaa,cond_false,qaj,zab,zaa,qab,qam,qbq]
  ·simp only[zaS] at hf
   simp -implicitDefEqProofs only[bsc,bs0,bs1,hb,hf,c117,if_true,if_false,Bool.true_eq_false,qah,qaU,qbc,qcL,qbj,qad,qaf,zak,zal,qaa,cond_true,cond_false,qaj,zab,zaa,qab,qam,qbq]
end Go.AI.Tryz
namespace Go.AI.Tryz
def zO (p:Int×Bool):Int:=if p.2 then p.1 else 0
def _root_.Go.AI.Sc.sn (x:Sc):List Sn:=x.ids.mapIdx fun j e=>⟨e.ty,e.arg,decide (x.top<=Int.ofNat j)&&!e.arg⟩
structure ScG (x:Sc):Prop where
 ok:ScOk x
 cell:∀e∈x.ids,e.ty.res.cell=true->e.ty.ps=[]/\e.arg=false
 ps:∀e∈x.ids,∀p∈e.ty.ps,1<=p.n/\p.n<=64
theorem qqx (x:Sc):x.sn.length=x.ids.length:=List.length_mapIdx
theorem qhF (x:Sc)(i:Int):qeg x.sn i=(x.get i).map fun e=>⟨e.ty,e.arg,decide (x.top<i)&&!e.arg⟩:=by
 unfold qeg Sc.get
 by_cases h:i<1
 ·simp only[h,if_true,Option.map_none]
 ·simp only[h,if_false,Sc.sn,List.getElem?_mapIdx]
  have:(x.top<=Int.ofNat (i-1).toNat)=(x.top<i):=by simp only[zaf,eq_iff_iff];omega
  simp only[this]
theorem qjI (x:Sc)(y:Se)(h:x.top<=Int.ofNat x.ids.length):(x.with y).sn=x.sn++[⟨y.ty,y.arg,!y.arg⟩]:=by
 simp only[Sc.sn,Sc.with,List.mapIdx_append,List.mapIdx_cons,List.mapIdx_nil,zaK,decide_eq_true h,zay]
 rfl
theorem qjJ {x:Sc}(g:ScG x)(i z:Int):qcm x.sn i z=(x.get i).any fun e=>e.ty.res.cell&&(decide (z=0)||decide (e.ty.res.n=z)):=by
 unfold qcm
 rw[qhF]
 cases h:x.get i with
 |none=>rfl
 |some e=>
  obtain⟨j,_,hj⟩:=Sc.get_inv h
  simp only[zab,Option.any_some]
  cases hc:e.ty.res.cell with
  |false=>simp
  |true=>
   obtain⟨h1,h2⟩:=g.cell e (zaM hj) hc
   rw[h1,h2]
   simp
theorem qlc {f g:Tm->Bs->Bool}:∀{ks:List Tm} {ps:List Bs},(∀u∈ks,∀p∈ps,f u p=g u p)->qbv f ks ps=qbv g ks ps
 |[],[],_=>rfl
 |[],_::_,_=>rfl
 |_::_,[],_=>rfl
 |u::r,p::q,h=>by
  simp only[qbv]
  rw[h u (zau ..) p (zau ..),qlc fun u hu p hp=>h u (zax _ hu) p (zax _ hp)]
theorem qdg {x:Sc}(g:ScG x)(u:Tm)(h:(szF x u).2=true):(szF x u).1≠0:=by
 have:=qfF u.size u x (zan _) g.ok h
 omega
theorem qxT {t:Tm}(h:qbr t=true):fR t=true/\¬(0<=kR t.k/\kR t.k≠Int.ofNat t.ks.length):=by
 cases qlZ h<;>simp[fR,kR,Tm.k,Tm.n,Tm.m,Tm.i,Tm.ks]
theorem qr4 {l:List Sn}{lab:Int}{t:Tm}{z:List Int}{f:Tm->Bs->Bool}(h:qbr t=true):szR l lab t z f=if t.k≠2/\t.k≠17/\0∈z then 0 else tlR l lab t z f:=by
 have:=qxT h
 unfold szR
 rw[if_neg (by rw[this.1];simp),if_neg this.2]
theorem qui {l:List Sn}{lab:Int}{t:Tm}{z:List Int}{f:Tm->Bs->Bool}(h:qbr t=false):szR l lab t z f=0:=by
 unfold szR
 by_cases h1:fR t=false
 ·rw[if_pos h1]
 ·rw[if_neg h1]
  by_cases h2:0<=kR t.k/\kR t.k≠Int.ofNat t.ks.length
  ·rw[if_pos h2]
  ·rw[if_neg h2]
   simp only[Bool.not_eq_false] at h1
   have hk:(t.k=1\/t.k=2\/t.k=3\/t.k=4\/t.k=5\/t.k=6\/t.k=7\/t.k=8\/t.k=9\/t.k=10\/t.k=11\/t.k=12\/t.k=13\/t.k=14\/t.k=15\/t.k=16\/t.k=17\/t.k=18)\/(t.k<1\/18<t.k):=by omega
   rcases hk with hk|hk
   ·exfalso
    rcases hk with g|g|g|g|g|g|g|g|g|g|g|g|g|g|g|g|g|g<;>simp[qbr,qct,formL,fR,kR,g] at h h1 h2<;>simp_all
   ·have k1:t.k≠1:=by omega
    have k2:t.k≠2:=by omega
    have k3:t.k≠3:=by omega
    have k4:t.k≠4:=by omega
    have k5:t.k≠5:=by omega
    have k6:t.k≠6:=by omega
    have k7:t.k≠7:=by omega
    have k8:t.k≠8:=by omega
    have k9:t.k≠9:=by omega
    have k10:t.k≠10:=by omega
    have k11:t.k≠11:=by omega
    have k12:t.k≠12:=by omega
    have k13:t.k≠13:=by omega
    have k14:t.k≠14:=by omega
    have k15:t.k≠15:=by omega
    have k18:t.k≠18:=by omega
    simp only[tlR,flR,k1,k2,k3,k4,k5,k6,k7,k8,k9,k10,k11,k12,k13,k14,k15,k18,if_false,or_self]
    exact ite_self _
end Go.AI.Tryz
namespace Go.AI.Tryz
theorem ScG.lab {x:Sc}(g:ScG x)(m:Int):ScG {x with size:=m}:=⟨g.ok,g.cell,g.ps⟩
theorem ScG.cellW {x:Sc}(g:ScG x){n:Int}(h:1<=n/\n<=64):ScG (x.with ⟨⟨[],⟨true,n⟩⟩,false⟩):=by
 refine⟨g.ok.with h,?_,?_⟩<;>(intro e he;simp only[Sc.with,zaI,zaV] at he;rcases he with he|rfl)
 ·exact g.cell e he
 ·exact fun _=>⟨rfl,rfl⟩
 ·exact g.ps e he
 ·intro p hp;cases hp
theorem ScG.valW {x:Sc}(g:ScG x){n:Int}(h:1<=n/\n<=64):ScG (x.with ⟨⟨[],⟨false,n⟩⟩,true⟩):=by
 refine⟨g.ok.with h,?_,?_⟩<;>(intro e he;simp only[Sc.with,zaI,zaV] at he;rcases he with he|rfl)
 ·exact g.cell e he
 ·intro h;cases h
 ·exact g.ps e he
 ·intro p hp;cases hp
theorem quj {x:Sc}(g:ScG x){t:Tm}(hs:Sh t){Z:List Int}{f:Tm->Bs->Bool}(hZ:t.k≠2->t.k≠17->Z.length=t.ks.length)(h17:t.k=2\/t.k=17->Z=[])
  (hz:t.k≠2->t.k≠17->∀j u z,t.ks[j]? =some u->Z[j]? =some z->ScG (x.kid t j)->z=zO (szF (x.kid t j) u))
  (hf:t.k=2->∀u∈t.ks,∀p:Bs,1<=p.n->p.n<=64->f u p=qdy szF x u p):szR x.sn x.size t Z f=zO (szF x t):=by
 rw[qr4 (qc7 hs)]
 have Z0:Z.length=0->Z=[]:=za1.1
 have Z1:Z.length=1->∃a,Z=[a]:=fun h=>match Z,h with|[a],_=>⟨a,rfl⟩
 have Z2:Z.length=2->∃a b,Z=[a,b]:=fun h=>match Z,h with|[a,b],_=>⟨a,b,rfl⟩
 have Z3:Z.length=3->∃a b c,Z=[a,b,c]:=fun h=>match Z,h with|[a,b,c],_=>⟨a,b,c,rfl⟩
 cases hs with
 |num n m=>
  rw[Z0 (hZ (by simp[Tm.k]) (by simp[Tm.k])),qdB]
  simp only[tlR,Tm.k,Tm.n,Tm.m,zO,zaD,and_false,if_false,if_true]
  rfl
 |use i ks=>
  rw[h17 (.inl rfl),qgl]
  simp only[tlR,usR,Tm.k,Tm.i,Tm.ks,qhF,zO,zaj,ne_eq,not_true_eq_false,false_and,if_false,if_true]
  cases he:x.get i with
  |none=>simp
  |some e=>
   obtain⟨j,_,hj⟩:=Sc.get_inv he
   have:qbv f ks e.ty.ps=qbv (qdy szF x) ks e.ty.ps:=qlc fun u hu p hp=>by
    have:=g.ps e (zaM hj) p hp
    exact hf rfl u hu p this.1 this.2
   simp only[zab,this,zaE,zbj,zay]
   cases e.arg<;>cases e.ty.res.cell<;>simp
 |get i=>
  rw[Z0 (hZ (by simp[Tm.k]) (by simp[Tm.k])),qhr]
  simp only[tlR,Tm.k,Tm.i,zO,qjJ g,qhF,zaD,and_false,if_false,if_true,zaj,decide_true,zbl,za7]
  cases x.get i<;>rfl
 |put i u=>
  obtain⟨a,rfl⟩:=Z1 (hZ (by simp[Tm.k]) (by simp[Tm.k]))
  have ha:a=zO (szF x u):=hz (by simp[Tm.k]) (by simp[Tm.k]) 0 u a rfl rfl g
  rw[qeW]
  simp only[tlR,Tm.k,Tm.i,qjJ g,zaV,zas,zaE,zaj,ne_eq,not_false_eq_true,true_and,if_false,if_true]
  have:=qdg g u
  cases x.get i with
  |none=>simp[zO]
  |some e=>
   subst ha
   simp only[zO,is2,Option.any_some,zaE]
   generalize szF x u=p at this⊢
   obtain⟨p1,p2⟩:=p
   cases p2
   ·simp
   ·have h1:=this rfl
    simp only at h1
    have h2:¬(0=p1):=fun h=>h1 h.symm
    simp only[if_true,h1,h2,if_false,decide_false,za6,zay]
    cases e.ty.res.cell
    ·simp
    ·by_cases q:e.ty.res.n=p1
     ·simp[q]
     ·have:¬p1=e.ty.res.n:=fun h=>q h.symm
      simp[q,this]
 |op n m u w=>
  obtain⟨a,b,rfl⟩:=Z2 (hZ (by simp[Tm.k]) (by simp[Tm.k]))
  have ha:a=zO (szF x u):=hz (by simp[Tm.k]) (by simp[Tm.k]) 0 u a rfl rfl g
  have hb:b=zO (szF x w):=hz (by simp[Tm.k]) (by simp[Tm.k]) 1 w b rfl rfl g
  rw[qeQ]
  have h1:=qdg g u
  have h2:=qdg g w
  simp only[tlR,Tm.k,Tm.n,Tm.m,zaA,zaD,or_false,zas,zaO,zaE,zaj,ne_eq,not_false_eq_true,true_and,if_false,if_true]
  subst ha hb
  simp only[zO,is2]
  generalize szF x u=p at h1⊢
  generalize szF x w=q at h2⊢
  obtain⟨p1,p2⟩:=p
  obtain⟨q1,q2⟩:=q
  cases p2
  ·by_cases g1:n=1\/n=2\/n=3<;>by_cases g2:n=4\/n=5<;>simp[g1,g2]
  ·cases q2
   ·by_cases g1:n=1\/n=2\/n=3<;>by_cases g2:n=4\/n=5<;>simp[g1,g2]
   ·have e1:=h1 rfl
    have e2:=h2 rfl
    simp only at e1 e2
    have e3:¬(0=p1):=fun h=>e1 h.symm
    have e4:¬(0=q1):=fun h=>e2 h.symm
    simp only[if_true,e3,e4,or_self,if_false,zay]
    by_cases g1:n=1\/n=2\/n=3
    ·have q1':¬n<1:=by omega
     have q2':¬5<n:=by omega
     have q3':¬4<=n:=by omega
     simp only[g1,q1',q2',q3',if_true,if_false,false_or]
     cases qbd m<;>by_cases r1:p1=m<;>by_cases r2:q1=m<;>simp[r1,r2]
    ·by_cases g2:n=4∨n=5
     ·have q1':¬n<1:=by omega
      have q2':¬5<n:=by omega
      have q3':4<=n:=by omega
      simp only[g1,g2,q1',q2',q3',if_true,if_false,false_or]
      cases qbd m<;>by_cases r1:p1=m<;>by_cases r2:q1=m<;>simp[r1,r2]
     ·have q1':n<1∨5<n:=by omega
      simp only[g1,g2,if_false,zai]
      rcases q1' with q|q<;>simp[q]
 |az n u=>
  obtain⟨a,rfl⟩:=Z1 (hZ (by simp[Tm.k]) (by simp[Tm.k]))
  have ha:a=zO (szF x u):=hz (by simp[Tm.k]) (by simp[Tm.k]) 0 u a rfl rfl g
  rw[qeR]
  have h1:=qdg g u
  simp only[tlR,flR,Tm.k,Tm.n,Tm.m,zaV,zaj,ne_eq,not_false_eq_true,true_and,if_false,if_true]
  subst ha
  simp only[zO]
  generalize szF x u=p at h1⊢
  obtain⟨p1,p2⟩:=p
  cases p2
  ·simp
  ·have e1:=h1 rfl
   simp only at e1
   have e3:¬(0=p1):=fun h=>e1 h.symm
   simp[e3]
   rfl
 |seq u w=>
  obtain⟨a,b,rfl⟩:=Z2 (hZ (by simp[Tm.k]) (by simp[Tm.k]))
  have ha:a=zO (szF x u):=hz (by simp[Tm.k]) (by simp[Tm.k]) 0 u a rfl rfl g
  have hb:b=zO (szF x w):=hz (by simp[Tm.k]) (by simp[Tm.k]) 1 w b rfl rfl g
  rw[qb2]
  have h1:=qdg g u
  have h2:=qdg g w
  simp only[tlR,flR,Tm.k,Tm.n,Tm.m,zaA,zaD,or_false,zas,zaO,zaE,zaj,ne_eq,not_false_eq_true,true_and,if_false,if_true]
  subst ha hb
  simp only[zO,is2]
  generalize szF x u=p at h1⊢
  generalize szF x w=q at h2⊢
  obtain⟨p1,p2⟩:=p
  obtain⟨q1,q2⟩:=q
  cases p2<;>cases q2<;>simp
  have e1:=h1 rfl
  have e2:=h2 rfl
  simp only at e1 e2
  omega
 |ite c u w=>
  obtain⟨a,b,d,rfl⟩:=Z3 (hZ (by simp[Tm.k]) (by simp[Tm.k]))
  have ha:a=zO (szF x c):=hz (by simp[Tm.k]) (by simp[Tm.k]) 0 c a rfl rfl g
  have hb:b=zO (szF x u):=hz (by simp[Tm.k]) (by simp[Tm.k]) 1 u b rfl rfl g
  have hd:d=zO (szF x w):=hz (by simp[Tm.k]) (by simp[Tm.k]) 2 w d rfl rfl g
  rw[qcA]
  have h1:=qdg g c
  have h2:=qdg g u
  have h3:=qdg g w
  simp only[tlR,flR,Tm.k,Tm.n,Tm.m,zaA,zaD,or_false,zas,zaO,zaE,zaj,ne_eq,not_false_eq_true,true_and,if_false,if_true]
  subst ha hb hd
  simp only[zO,is2]
  generalize szF x c=p at h1⊢
  generalize szF x u=q at h2⊢
  generalize szF x w=r at h3⊢
  obtain⟨p1,p2⟩:=p
  obtain⟨q1,q2⟩:=q
  obtain⟨r1,r2⟩:=r
  cases p2<;>cases q2<;>cases r2<;>simp
  have e1:=h1 rfl
  have e2:=h2 rfl
  have e3:=h3 rfl
  simp only at e1 e2 e3
  have n1:¬(0=p1):=fun h=>e1 h.symm
  have n2:¬(0=q1):=fun h=>e2 h.symm
  have n3:¬(0=r1):=fun h=>e3 h.symm
  simp only[n1,n2,n3,or_self,if_false,eq_comm]
 |whl u w=>
  obtain⟨a,b,rfl⟩:=Z2 (hZ (by simp[Tm.k]) (by simp[Tm.k]))
  have ha:a=zO (szF x u):=hz (by simp[Tm.k]) (by simp[Tm.k]) 0 u a rfl rfl g
  have hb:b=zO (szF x w):=hz (by simp[Tm.k]) (by simp[Tm.k]) 1 w b rfl rfl g
  rw[qfD]
  have h1:=qdg g u
  have h2:=qdg g w
  simp only[tlR,flR,Tm.k,Tm.n,Tm.m,zaA,zaD,or_false,zas,zaO,zaE,zaj,ne_eq,not_false_eq_true,true_and,if_false,if_true]
  subst ha hb
  simp only[zO,is2]
  generalize szF x u=p at h1⊢
  generalize szF x w=q at h2⊢
  obtain⟨p1,p2⟩:=p
  obtain⟨q1,q2⟩:=q
  cases p2<;>cases q2<;>simp
  have e1:=h1 rfl
  have e2:=h2 rfl
  simp only at e1 e2
  omega
 |new n m u=>
  obtain⟨a,rfl⟩:=Z1 (hZ (by simp[Tm.k]) (by simp[Tm.k]))
  rw[qeX]
  simp only[tlR,flR,Tm.k,Tm.n,Tm.m,zaV,zas,zaE,zaj,ne_eq,not_false_eq_true,true_and,if_false,if_true]
  by_cases hn:qbd n=true
  ·have g':=g.cellW (isSize_iff.1 hn)
   have ha:a=zO (szF (x.with ⟨⟨[],⟨true,n⟩⟩,false⟩) u):=hz (by simp[Tm.k]) (by simp[Tm.k]) 0 u a rfl rfl g'
   subst ha
   simp only[zO,hn,zay]
   generalize szF (x.with ⟨⟨[],⟨true,n⟩⟩,false⟩) u=p
   obtain⟨p1,p2⟩:=p
   cases p2<;>simp
   intro h
   simp[<-h]
  ·simp only[zaS] at hn
   simp[zO,hn]
 |lbl u w=>
  obtain⟨a,b,rfl⟩:=Z2 (hZ (by simp[Tm.k]) (by simp[Tm.k]))
  have ha:a=zO (szF {x with size:=x.size+1} u):=hz (by simp[Tm.k]) (by simp[Tm.k]) 0 u a rfl rfl (g.lab _)
  have hb:b=zO (szF x w):=hz (by simp[Tm.k]) (by simp[Tm.k]) 1 w b rfl rfl g
  rw[qew]
  have h1:=qdg (g.lab (x.size+1)) u
  have h2:=qdg g w
  simp only[tlR,flR,Tm.k,Tm.n,Tm.m,zaA,zaD,or_false,zas,zaO,zaE,zaj,ne_eq,not_false_eq_true,true_and,if_false,if_true]
  subst ha hb
  simp only[zO,is2]
  generalize szF {x with size:=x.size+1} u=p at h1⊢
  generalize szF x w=q at h2⊢
  obtain⟨p1,p2⟩:=p
  obtain⟨q1,q2⟩:=q
  cases p2<;>cases q2<;>simp
  have e1:=h1 rfl
  have e2:=h2 rfl
  simp only at e1 e2
  have n1:¬(0=p1):=fun h=>e1 h.symm
  have n2:¬(0=q1):=fun h=>e2 h.symm
  simp only[n1,n2,or_self,if_false,eq_comm]
 |jmp n=>
  rw[Z0 (hZ (by simp[Tm.k]) (by simp[Tm.k])),qiA]
  simp only[tlR,flR,Tm.k,Tm.n,Tm.m,zO,zaD,and_false,if_false,if_true,zaj,or_self]
  rfl
 |cho u w=>
  obtain⟨a,b,rfl⟩:=Z2 (hZ (by simp[Tm.k]) (by simp[Tm.k]))
  have ha:a=zO (szF x u):=hz (by simp[Tm.k]) (by simp[Tm.k]) 0 u a rfl rfl g
  have hb:b=zO (szF x w):=hz (by simp[Tm.k]) (by simp[Tm.k]) 1 w b rfl rfl g
  rw[qex]
  have h1:=qdg g u
  have h2:=qdg g w
  simp only[tlR,flR,Tm.k,Tm.n,Tm.m,zaA,zaD,or_false,or_true,zas,zaO,zaE,zaj,ne_eq,not_false_eq_true,true_and,if_false,if_true]
  subst ha hb
  simp only[zO,is2]
  generalize szF x u=p at h1⊢
  generalize szF x w=q at h2⊢
  obtain⟨p1,p2⟩:=p
  obtain⟨q1,q2⟩:=q
  cases p2<;>cases q2<;>simp
  have e1:=h1 rfl
  have e2:=h2 rfl
  simp only at e1 e2
  have n1:¬(0=p1):=fun h=>e1 h.symm
  have n2:¬(0=q1):=fun h=>e2 h.symm
  simp only[n1,n2,or_self,if_false,eq_comm]
 |hang=>
  rw[Z0 (hZ (by simp[Tm.k]) (by simp[Tm.k])),qht]
  simp only[tlR,flR,Tm.k,Tm.n,Tm.m,zO,zaD,and_false,if_false,if_true,zaj,or_self]
 |val i=>
  rw[Z0 (hZ (by simp[Tm.k]) (by simp[Tm.k])),qhs]
  simp only[tlR,Tm.k,Tm.i,zO,qhF,zaD,and_false,if_false,if_true,zaj]
  cases x.get i with
  |none=>rfl
  |some e=>cases h:e.arg<;>simp[h]
 |cel i=>
  rw[Z0 (hZ (by simp[Tm.k]) (by simp[Tm.k])),qeY]
  simp only[tlR,flR,Tm.k,Tm.n,Tm.m,zO,zaD,and_false,if_false,zaj,or_self,zai]
 |obj u w=>
  rw[h17 (.inr rfl),qdQ]
  simp only[tlR,flR,Tm.k,Tm.n,Tm.m,zO,zaD,and_false,if_false,zaj,or_self,zai]
 |ntc n i u=>
  obtain⟨a,rfl⟩:=Z1 (hZ (by simp[Tm.k]) (by simp[Tm.k]))
  have ha:a=zO (szF x u):=hz (by simp[Tm.k]) (by simp[Tm.k]) 0 u a rfl rfl g
  rw[qey]
  have h1:=qdg g u
  simp only[tlR,Tm.k,Tm.i,Tm.n,qjJ g,qhF,zaV,zas,zaE,zaj,ne_eq,not_false_eq_true,true_and,if_false,if_true,decide_true,zbl,za7]
  cases he:x.get i with
  |none=>simp[zO]
  |some e=>
   obtain⟨j,_,hj⟩:=Sc.get_inv he
   have hc:=g.cell e (zaM hj)
   subst ha
   simp only[zO,Option.any_some,zaE,zab]
   generalize szF x u=p at h1⊢
   obtain⟨p1,p2⟩:=p
   cases p2
   ·simp
   ·have e1:=h1 rfl
    simp only at e1
    have n1:¬(0=p1):=fun h=>e1 h.symm
    by_cases hcc:e.ty.res.cell=true
    ·have:=(hc hcc).2
     simp[n1,hcc,this]
    ·simp[hcc]
end Go.AI.Tryz
namespace Go.AI.Tryz
theorem qqy {x:Sc}(g:ScG x){t:Tm}{b:Bs}(hb:1<=b.n/\b.n<=64){zt z0 z1:Int}(ht:b.cell=false->zt=zO (szF x t))(h0:b.cell=true->∀u,t.ks[0]? =some u->z0=zO (szF x u))
  (h1:b.cell=true->∀u,t.ks[1]? =some u->z1=zO (szF (x.with ⟨⟨[],⟨false,b.n⟩⟩,true⟩) u)):agR x.sn t b zt z0 z1=qdy szF x t b:=by
 unfold agR qdy
 cases hc:b.cell
 ·simp only[if_true,zai,if_false,ht hc,zO]
  by_cases h16:t.k=16\/t.k=17
  ·have:(szF x t).2=false:=by
    cases h:(szF x t).2
    ·rfl
    ·have hsh:=qdj h
     cases hsh<;>simp[Tm.k] at h16
     ·rw[qeY] at h;cases h
     ·rw[qdQ] at h;cases h
   rw[this]
   rcases h16 with h|h<;>simp[h]
  ·have h1:t.k≠16:=fun h=>h16 (.inl h)
   have h2:t.k≠17:=fun h=>h16 (.inr h)
   simp only[h1,h2,decide_false,zal,zay]
   cases h:(szF x t).2
   ·have:¬(0:Int)=b.n:=by omega
    simp[this]
   ·simp
 ·simp only[if_true,Bool.true_eq_false,if_false]
  by_cases h16:t.k=16
  ·have hform:qbr t=(fR t&&decide (Int.ofNat t.ks.length=0)):=by
    simp only[qbr,formL,qct,fR,h16,zaj,if_true,if_false,or_self,or_true]
    have e:((0:Int)=t.ks.length)=(t.ks=[]):=by rw[<-za1,eq_iff_iff];omega
    simp[e]
   rw[hform]
   simp only[h16,if_true,qjJ g]
   have hn:¬b.n=0:=by omega
   cases fR t<;>simp[hn]
   cases x.get t.i<;>simp
  ·by_cases h17:t.k=17
   ·have hform:qbr t=(fR t&&decide (t.ks.length=2)):=by
     simp only[qbr,formL,qct,fR,h17,zaj,if_true,if_false,or_self]
     have e:((2:Int)=t.ks.length)=(t.ks.length=2):=by rw[eq_iff_iff];omega
     simp[e,Bool.and_assoc]
    rw[hform]
    simp only[h17,if_true,true_and]
    cases hf:fR t
    ·simp
    ·by_cases h2:t.ks.length=2
     ·obtain⟨u,w,hks⟩:=qtD h2.symm
      have e0:=h0 hc u (by rw[hks];rfl)
      have e1:=h1 hc w (by rw[hks];rfl)
      simp only[hks,e0,e1,zO]
      have n0:¬(0:Int)=b.n:=by omega
      cases(szF x u).2<;>cases(szF (x.with ⟨⟨[],⟨false,b.n⟩⟩,true⟩) w).2<;>simp[n0]
     ·simp[h2]
   ·simp only[h16,h17,if_false,false_and,zaT]
    exact ite_self _
theorem qnu {x:Sc}{t:Tm}{j:Nat}(ht:x.top<=Int.ofNat x.ids.length)(h17:t.k≠17):(x.kid t j).sn=kl x.sn t/\(x.kid t j).size=qnt x.size t j:=by
 unfold Sc.kid kl qnt
 by_cases h:t.k=10
 ·have h11:¬t.k=11:=by omega
  simp only[h,if_true,zaj,false_and,if_false,qjI x _ ht]
  exact⟨rfl,rfl⟩
 ·simp only[h,h17,if_false,false_and]
  split
  ·exact⟨rfl,rfl⟩
  ·exact⟨rfl,rfl⟩
theorem qqz {x:Sc}{t:Tm}{j:Nat}(ht:x.top<=Int.ofNat x.ids.length):(x.kid t j).top<=Int.ofNat (x.kid t j).ids.length:=by
 unfold Sc.kid
 split
 ·simp only[Sc.with,zaw,zar,zaB,zaf] at ht⊢;omega
 ·split
  ·simp only[Sc.with,zaw,zar,zaB,zaf] at ht⊢;omega
  ·split
   ·exact ht
   ·exact ht
theorem ex7:∀(d:Nat) (t:Tm) (x:Sc),t.size<=d->x.B t.size->x.top<=Int.ofNat x.ids.length->
  (∃z,PC CP 116 [t.v,sw x.sn,i64 x.size] (i64 z)/\(ScG x->z=zO (szF x t)))/\(∀b:Bs,∃r,PC CP 68 [t.v,b.v,sw x.sn,i64 x.size] (bl r)/\(ScG x->1<=b.n/\b.n<=64->r=qdy szF x t b))
 |0,t,x,hd,_,_=>by have:=t.size_pos;omega
 |d+1,t,x,hd,hB,htop=>by
  have hB':=hB
  obtain⟨b1,b2,b3⟩:=hB'
  have hlt:∀u∈t.ks,u.size<t.size:=fun u hu=>qa5 hu
  have hkl:t.ks.length<=1000000:=by
   have:=Tm.len_le_size t.ks
   have:=Tm.size_ks t
   omega
  have hsn:x.sn.length<=999999:=by rw[qqx];have:=t.size_pos;omega
  have hA:∃z,PC CP 116 [t.v,sw x.sn,i64 x.size] (i64 z)/\(ScG x->z=zO (szF x t)):=by
   have hkid:∀j,∀hj:j<t.ks.length,t.k≠17->∃z,PC CP 116 [t.ks[j].v,sw (kl x.sn t),i64 (qnt x.size t j)] (i64 z)/\(ScG (x.kid t j)->z=zO (szF (x.kid t j) t.ks[j])):=fun j hj h17=>by
    have hm:=za4 hj
    obtain⟨z,h1,h2⟩:=(ex7 d t.ks[j] (x.kid t j) (by have:=hlt _ hm;omega) (qvW hB (zah hj)) (qqz htop)).1
    rw[(qnu htop h17).1,(qnu htop h17).2] at h1
    exact⟨z,h1,h2⟩
   have harg:∀u,u∈t.ks->∀p:Bs,∃r,PC CP 68 [u.v,p.v,sw x.sn,i64 x.size] (bl r)/\(ScG x->1<=p.n/\p.n<=64->r=qdy szF x u p):=fun u hu p=>
    (ex7 d u x (by have:=hlt u hu;omega) (qm4 hB (hlt u hu)) htop).2 p
   let zf:Nat->Int:=fun j=>if h:∃hj:j<t.ks.length,t.k≠17 then Classical.choose (hkid j h.1 h.2) else 0
   let f:Tm->Bs->Bool:=fun u p=>if h:u∈t.ks then Classical.choose (harg u h p) else false
   let Z:List Int:=if t.k=2\/t.k=17 then[] else(List.range t.ks.length).map zf
   have hzf:∀j,∀hj:j<t.ks.length,∀h17:t.k≠17,PC CP 116 [t.ks[j].v,sw (kl x.sn t),i64 (qnt x.size t j)] (i64 (zf j))/\(ScG (x.kid t j)->zf j=zO (szF (x.kid t j) t.ks[j])):=fun j hj h17=>by
    simp only[zf,dif_pos (show∃hj:j<t.ks.length,t.k≠17 from⟨hj,h17⟩)]
    exact Classical.choose_spec (hkid j hj h17)
   have hff:∀u,u∈t.ks->∀p:Bs,PC CP 68 [u.v,p.v,sw x.sn,i64 x.size] (bl (f u p))/\(ScG x->1<=p.n/\p.n<=64->f u p=qdy szF x u p):=fun u hu p=>by
    simp only[f,dif_pos hu]
    exact Classical.choose_spec (harg u hu p)
   have hZl:t.k≠2->t.k≠17->Z=(List.range t.ks.length).map zf:=fun h2 h17=>if_neg (fun h=>h.elim h2 h17)
   have hZlen:t.k≠2->t.k≠17->Z.length=t.ks.length:=fun h2 h17=>by rw[hZl h2 h17,zaZ,List.length_range]
   have hZ17:t.k=2\/t.k=17->Z=[]:=fun h=>if_pos h
   have hZj:t.k≠2->t.k≠17->∀j u z,t.ks[j]? =some u->Z[j]? =some z->∃hj:j<t.ks.length,u=t.ks[j]/\z=zf j:=fun h2 h17 j u z hu hz=>by
    obtain⟨hj,rfl⟩:=zao.1 hu
    rw[hZl h2 h17,za9,List.getElem?_range hj,zab,zac] at hz
    exact⟨hj,rfl,hz.symm⟩
   refine⟨_,quh x.sn hsn t hkl x.size b2 (by omega) Z f hZlen (fun h2 h17 j _ u z hu hz=>?_) (fun u hu p _=>(hff u hu p).1) hZ17,fun g=>?_⟩
   ·obtain⟨hj,rfl,rfl⟩:=hZj h2 h17 j u z hu hz
    exact(hzf j hj h17).1
   ·cases hok:qbr t with
    |false=>
     rw[qui hok]
     have:szF x t=(0,false):=by rw[qcz];unfold qbm;simp[hok]
     rw[this];rfl
    |true=>
     refine quj g (qlZ hok) hZlen hZ17 (fun h2 h17 j u z hu hz gk=>?_) (fun _ u hu p h1 h2=>(hff u hu p).2 g ⟨h1,h2⟩)
     obtain⟨hj,rfl,rfl⟩:=hZj h2 h17 j u z hu hz
     exact(hzf j hj h17).2 gk
  refine⟨hA,fun b=>?_⟩
  obtain⟨zt,p1,e1⟩:=hA
  have hk0:∃z0,b.cell=true/\t.k=17->∀u∈t.ks[0]?.toList,PC CP 116 [u.v,sw x.sn,i64 x.size] (i64 z0)/\(ScG x->z0=zO (szF x u)):=by
   cases h:t.ks[0]? with
   |none=>exact⟨0,fun _ u hu=>by cases hu⟩
   |some u=>
    have hu:=zaM h
    obtain⟨z,h1,h2⟩:=(ex7 d u x (by have:=hlt u hu;omega) (qm4 hB (hlt u hu)) htop).1
    exact⟨z,fun _ v hv=>by simp only[Option.toList_some,zaV] at hv;subst hv;exact⟨h1,h2⟩⟩
  have hk1:∃z1,b.cell=true/\t.k=17->∀u∈t.ks[1]?.toList,PC CP 116 [u.v,sw (x.sn++[Sn.val b.n]),i64 x.size] (i64 z1)/\(ScG (x.with ⟨⟨[],⟨false,b.n⟩⟩,true⟩)->z1=zO (szF (x.with ⟨⟨[],⟨false,b.n⟩⟩,true⟩) u)):=by
   cases h:t.ks[1]? with
   |none=>exact⟨0,fun _ u hu=>by cases hu⟩
   |some u=>
    have hu:=zaM h
    obtain⟨z,h1,h2⟩:=(ex7 d u (x.with ⟨⟨[],⟨false,b.n⟩⟩,true⟩) (by have:=hlt u hu;omega) (qhn hB (hlt u hu)) (by simp only[Sc.with,zaw,zar,zaB,zaf] at htop⊢;omega)).1
    rw[qjI x _ htop] at h1
    exact⟨z,fun _ v hv=>by simp only[Option.toList_some,zaV] at hv;subst hv;exact⟨h1,h2⟩⟩
  obtain⟨z0,h0⟩:=hk0
  obtain⟨z1,h1⟩:=hk1
  refine⟨_,qwi x.sn hsn t b x.size zt z0 z1 (fun _=>p1) (fun c u hu=>(h0 c u hu).1) (fun c u hu=>(h1 c u hu).1),fun g hb=>?_⟩
  by_cases h17:t.k=17
  ·exact qqy g hb (fun _=>e1 g) (fun c u hu=>(h0 ⟨c,h17⟩ u (by rw[hu];exact zaV.2 rfl)).2 g) (fun c u hu=>(h1 ⟨c,h17⟩ u (by rw[hu];exact zaV.2 rfl)).2 (g.valW hb))
  ·have:∀a0 a1 c0 c1,agR x.sn t b zt a0 a1=agR x.sn t b zt c0 c1:=fun _ _ _ _=>by unfold agR;simp only[h17,false_and,if_false]
   rw[this z0 z1 (zO (szF x (t.ks[0]?.getD .z))) (zO (szF (x.with ⟨⟨[],⟨false,b.n⟩⟩,true⟩) (t.ks[1]?.getD .z)))]
   exact qqy g hb (fun _=>e1 g) (fun _ u hu=>by rw[hu];rfl) (fun _ u hu=>by rw[hu];rfl)
end Go.AI.Tryz
namespace Go.AI.Tryz
theorem LkK.mk' {sx sy:Nat->Sc}:∀(ks:List Tm) (j:Nat),(∀i w,ks[i]? =some w->Lk (sx (j+i)) w (sy (j+i)) w)->LkK sx sy j ks ks
 |[],_,_=>trivial
 |u::r,j,h=>⟨h 0 u rfl,LkK.mk' r (j+1) fun i w hw=>by
   have:=h (i+1) w (by simpa using hw)
   rw[show j+1+i=j+(i+1) by omega]
   exact this⟩
theorem qqA:∀(d:Nat) (t:Tm) (x:Sc) (m:Int),t.size<=d->Nd x t->x.size<=m->Lk x t {x with size:=m} t
 |0,t,_,_,h,_,_=>by have:=t.size_pos;omega
 |d+1,t,x,m,hd,h,hm=>by
  have hlt:∀u∈t.ks,u.size<t.size:=fun u hu=>qa5 hu
  have hkid:∀i w,t.ks[i]? =some w->Lk (x.kid t i) w (Sc.kid {x with size:=m} t i) w:=fun i w hw=>by
   have hwm:=zaM hw
   have hn:=h.kid hw
   have ih:=fun m' hm'=>qqA d w (x.kid t i) m' (by have:=hlt w hwm;omega) hn hm'
   have e:∃m',Sc.kid {x with size:=m} t i={x.kid t i with size:=m'}/\(x.kid t i).size<=m':=by
    unfold Sc.kid
    split
    ·exact⟨m,rfl,hm⟩
    ·split
     ·rename_i h17
      refine⟨m,?_,hm⟩
      have:(szF {x with size:=m} (t.ks.headD .z)).1=(szF x (t.ks.headD .z)).1:=by
       cases hks:t.ks with
       |nil=>rw[hks] at hw;cases hw
       |cons u r=>
        have h0:t.ks[0]? =some u:=by rw[hks];rfl
        have hn0:=h.kid h0
        rw[qfi h17.1] at hn0
        have:=qqA d u x m (by have:=hlt u (by rw[hks];exact zau ..);omega) hn0 hm
        simp only[zbh,this.1]
      rw[this]
      rfl
     ·split
      ·exact⟨m+1,rfl,by show x.size+1<=_;omega⟩
      ·exact⟨m,rfl,hm⟩
   obtain⟨m',e1,e2⟩:=e
   rw[e1]
   exact ih m' e2
  refine Lk.node h.sh h.sh rfl rfl (fun _=>rfl) (fun hk=>?_) rfl (fun _=>rfl) (LkK.mk' t.ks 0 fun i w hw=>by rw[zaK];exact hkid i w hw)
  have hsz:=h.gd.sz (by omega) (by omega)
  cases h.sh with
  |jmp n=>
   rw[qiA] at hsz
   have:=isBelow_iff.1 hsz
   show qbh n x.size=qbh n m
   refine(show qbh n x.size=true from hsz).trans ?_
   exact(isBelow_iff.2 ⟨this.1,by omega⟩).symm
  |_=>simp only[Tm.k_mk] at hk;omega
abbrev pv (x:Sc):zA:=.agg [sw x.sn,i64 x.top]
theorem pvc (a b:zA):zA.cells (some 2) (.agg [a,b])=some [a,b]:=rfl
theorem quk (x:Sc)(u:Tm)(hs:x.size<=600)(hn:Nd x u)(g:ScG x)(ht:x.top<=Int.ofNat x.ids.length)(hk:u.k≠16/\u.k≠17)(hl:x.ids.length+u.size<=900000):PC CP 123 [pv x,u.v] (i64 (szF x u).1):=by
 obtain⟨z,h1,h2⟩:=(ex7 u.size u {x with size:=600} (zan _) ⟨by show x.ids.length+_<=_;omega,by show(0:Int)<=600;omega,by show(600:Int)+_<=_;omega⟩ ht).1
 have hz:=h2 (g.lab 600)
 have hb:=(qqA u.size u x 600 (zan _) hn hs).1
 rw[<-hb] at hz
 have:z=(szF x u).1:=by rw[hz,zO,hn.gd.sz hk.1 hk.2,if_pos rfl]
 subst this
 have h1:PC CP 116 [u.v,sw x.sn,i64 600] (i64 (szF x u).1):=h1
 refine PC.of2 (cf:=cf123) (np:=2) (args':=[pv x,u.v]) (by kernel_rfl) (by kernel_rfl) rfl (by simp only[zap,qak];rfl) (by simp only[zam,qai];rfl) (fun _=>rfl) (h1.mono fun N h E s=>⟨i64 (szF x u).1,s,(s123_eq _ _ _ _ _).trans ?_,rfl⟩)
 unfold s123
 simp only[pvc,bs0,h,qah,qaU,zaa,qab]
theorem qiK (a:Ar):(qaB a).sn=a.ids.map fun t=>⟨t,false,false⟩:=by
 unfold Sc.sn qaB
 refine List.ext_getElem (by simp) fun j h1 h2=>?_
 simp only[List.length_mapIdx,zaZ] at h1
 simp only[List.getElem_mapIdx,List.getElem_map,zal,za7]
 have:¬(Int.ofNat a.ids.length<=Int.ofNat j):=by simp only[zaf];omega
 rw[decide_eq_false this]
theorem qld {a:Ar}(h:qbX a=0):ScG (qaB a)/\1<=a.root.n/\a.root.n<=64:=by
 unfold qbX at h
 split at h
 ·omega
 ·split at h
  ·omega
  ·rename_i h2
   simp only[zaS,zaU] at h2
   have hT:∀ty∈a.ids,qcr ty=true:=fun ty hty=>by
    have:=List.any_eq_false.1 h2.2 ty hty
    simpa using this
   have hr:qbg a.root=true:=by simpa using h2.1
   simp only[qbg,zag,decide_eq_true_eq] at hr
   refine⟨⟨fun e he=>?_,fun e he=>?_,fun e he=>?_⟩,hr⟩<;>(simp only[qaB,List.mem_map] at he;obtain⟨ty,hty,rfl⟩:=he;have:=hT ty hty;simp only[qcr,zag] at this)
   ·have:=this.1
    simp only[qbg,zag,decide_eq_true_eq] at this
    exact this
   ·intro hc
    have h3:=this.2.2
    rw[hc] at h3
    simp only[zak,Bool.or_false,List.isEmpty_iff] at h3
    exact⟨h3,rfl⟩
   ·intro p hp
    have:=zaN.1 this.2.1 p hp
    simp only[qbg,zag,decide_eq_true_eq] at this
    exact this
theorem qnv (a:Ar)(t:Tm)(oa:a.Ok)(ok:t.Ok)(h1:a.ids.length<=100000)(hs:t.size<=100000):PC CP 46 [a.v,t.v] (i64 (qbN a t)):=by
 obtain⟨r,hr,hr2⟩:=(ex7 t.size t (qaB a) (zan _) ⟨by simp only[qaB,zaZ];omega,by simp only[qaB];omega,by simp only[qaB];omega⟩ (by simp only[qaB,zaZ];exact Int.le_refl _)).2 a.root
 rw[qiK] at hr
 have hr:PC CP 68 [t.v,a.root.v,sw (a.ids.map fun t=>⟨t,false,false⟩),i64 0] (bl r):=hr
 refine PC.of2 (cf:=cf46) (np:=2) (args':=[a.v,t.v]) (by kernel_rfl) (by kernel_rfl) rfl (by simp only[zap,qak];rfl) (by simp only[zam,qai];rfl) (fun _=>rfl)
  (((qjs a oa).and ((qpA t ok).and ((qns a (by omega)).and hr))).mono fun N ⟨c62,c32,c69,c68⟩ E s=>⟨i64 (qbN a t),s,(s46_eq _ _ _ _ _).trans ?_,rfl⟩)
 have hroot:ldL [.p (.sl a.ids.length (qaQ Ty.cells a.ids)),bl a.root.cell,i64 a.root.n,bl a.jumps] 1 (some 2)=some a.root.v:=rfl
 unfold s46 qbN
 by_cases h0:qbX a=0
 ·have hG:=qld h0
  have hr3:=hr2 hG.1 hG.2
  by_cases h6:600<t.size
  ·have:(600:Int)<Int.ofNat (min 601 t.size):=by simp only[zaf];omega
   simp -implicitDefEqProofs only[qcQ,qhJ,c62,c32,h0,h6,this,ne_eq,not_true_eq_false,if_true,if_false,qah,qaU,qad,qa1,qaG,decide_true,zak,qaa,cond_true,cond_false,zab,zaa,qab]
  ·have:¬(600:Int)<Int.ofNat (min 601 t.size):=by simp only[zaf];omega
   rw[<-hr3]
   simp -implicitDefEqProofs only[qcQ,qhJ,hroot,c62,c32,c69,c68,h0,h6,this,ne_eq,not_true_eq_false,if_false,qah,qaU,qad,qa1,qaG,decide_true,decide_false,zak,qaa,cond_false,zab,zaa,qab,qam]
   cases r<;>rfl
 ·simp -implicitDefEqProofs only[qcQ,qhJ,c62,h0,ne_eq,not_false_eq_true,if_true,qah,qaU,qad,qa1,decide_false,zal,qaa,cond_true,zab,zaa,qab]
end Go.AI.Tryz
namespace Go.AI.Tryz
theorem qwj (t:Tm)(l:List Tm):over t.c 4 [kv l]=some (t.with l).c:=by cases t;rfl
theorem qbZ (t:Tm):PC CP 175 [t.v] (bl (qaI t)):=by
 refine PC.of2 (cf:=cf175) (np:=1) (args':=[t.v]) (by kernel_rfl) (by kernel_rfl) rfl (by first|rfl|(simp only[zap,qak];rfl)) (by first|rfl|(simp only[zam,qai];rfl)) (fun lo=>by first|rfl|exact qaM lo _|exact qaW lo _|exact qcf lo _ _) (Ev.mono (ev0) fun N _ E s=>⟨bl (qaI t),s,(s175_eq _ _ _ _).trans ?_,(by first|rfl|exact qai _|exact qaP _|exact qb5 _ _)⟩)
 unfold s175 qaI
 simp only[qah,qbc,qad,qaf,zab,zaa]
theorem qle (a b:Int):PC CP 176 [i64 a,i64 b] ((Tm.num a b).v):=by
 refine PC.of2 (cf:=cf176) (np:=2) (args':=[i64 a,i64 b]) (by kernel_rfl) (by kernel_rfl) rfl (by first|rfl|(simp only[zap,qak,qb9];rfl)) (by first|rfl|(simp only[zam,qai,qca];rfl)) (fun lo=>by first|rfl|exact qaM lo _|exact qaW lo _|exact qcf lo _ _) (Ev.mono (ev0) fun N _ E s=>⟨.agg [u8 1,i64 a,i64 b,i64 0,.sl 0 [] .full],s,(s176_eq _ _ _ _ _).trans ?_,(by first|rfl|exact qai _|exact qaP _|exact qb5 _ _)⟩)
 have h:bd [u8 0,i64 0,i64 0,i64 0,.sl 0 [] .full] [(0,none,.c (u8 1)),(1,none,.c (i64 a)),(2,none,.c (i64 b))]=some (.agg [u8 1,i64 a,i64 b,i64 0,.sl 0 [] .full]):=rfl
 unfold s176
 simp only[h,z5c,z5o,z5l,zaa]
theorem qeN (t:Tm)(n0 m0:Int):PC CP 199 [t.v,i64 n0,i64 m0] (bl (qbJ t n0 m0)):=by
 refine PC.of2 (cf:=cf199) (np:=3) (args':=[t.v,i64 n0,i64 m0]) (by kernel_rfl) (by kernel_rfl) rfl (by first|rfl|(simp only[zap,qak];rfl)) (by first|rfl|(simp only[zam,qai];rfl)) (fun lo=>by first|rfl|exact qaM lo _|exact qaW lo _|exact qcf lo _ _) (Ev.mono (qbZ t) fun N h E s=>⟨bl (qbJ t n0 m0),s,(s199_eq _ _ _ _ _ _).trans ?_,(by first|rfl|exact qai _|exact qaP _|exact qb5 _ _)⟩)
 unfold s199 s199_0 qbJ
 simp only[h,qah,qaU,qb1,qef,qad,qaf,qaa,qaj,zab,zaa,qab]
 cases qaI t<;>cases decide (t.n=n0)<;>rfl
theorem qeO (t:Tm)(l:List Tm):PC CP 200 [t.v,kv l] ((t.with l).v):=by
 refine PC.of2 (cf:=cf200) (np:=2) (args':=[t.v,kv l]) (by kernel_rfl) (by kernel_rfl) rfl (by first|rfl|(simp only[zap,qak];rfl)) (by first|rfl|(simp only[zam,qai];rfl)) (fun lo=>by first|rfl|exact qaM lo _|exact qaW lo _|exact qcf lo _ _) (Ev.mono (ev0) fun N _ E s=>⟨(t.with l).v,s,(s200_eq _ _ _ _ _).trans ?_,(by first|rfl|exact qai _|exact qaP _|exact qb5 _ _)⟩)
 have hc:zA.cells none (kv l)=some [kv l]:=rfl
 unfold s200
 simp only[hc,qwj,qah,qaU,qav,zaa]
theorem qqB (b:Bool):PC CP 207 [bl b] (i64 (cond b 1 0)):=by
 refine PC.of2 (cf:=cf207) (np:=1) (args':=[bl b]) (by kernel_rfl) (by kernel_rfl) rfl (by first|rfl|(simp only[zap,qak,qb9];rfl)) (by first|rfl|(simp only[zam,qai,qca];rfl)) (fun lo=>by first|rfl|exact qaM lo _|exact qaW lo _|exact qcf lo _ _) (Ev.mono (ev0) fun N _ E s=>⟨i64 (cond b 1 0),s,(s207_eq _ _ _ _).trans ?_,(by first|rfl|exact qai _|exact qaP _|exact qb5 _ _)⟩)
 unfold s207
 cases b<;>rfl
theorem qb3 (t:Tm):ldL t.c 0 (some 5)=some t.v:=by rw[Tm.v_eq];rfl
theorem qr5 (n m:Int)(a b:Tm)(hn:n=1\/n=2\/n=3\/n=4\/n=5)(hm:1<=m/\m<=64)(ha:0<=a.n/\a.n<64)(hb:0<=b.n/\b.n<64):PC CP 198 [(Tm.op n m a b).v] ((Tm.num (qgF n m a.n b.n) (if n=1\/n=2\/n=3 then m else 2)).v):=by
 refine PC.of2 (cf:=cf198) (np:=1) (args':=[(Tm.op n m a b).v]) (by kernel_rfl) (by kernel_rfl) rfl (by first|rfl|(simp only[zap,qak,qb9];rfl)) (by first|rfl|(simp only[zam,qai,qca];rfl)) (fun lo=>by first|rfl|exact qaM lo _|exact qaW lo _|exact qcf lo _ _) (Ev.mono ((qle (qgF n m a.n b.n) (if n=1\/n=2\/n=3 then m else 2)).and ((qqB (decide (a.n=b.n))).and (qqB (decide (a.n<b.n))))) fun N ⟨h,h1,h2⟩ E s=>⟨(Tm.num (qgF n m a.n b.n) (if n=1\/n=2\/n=3 then m else 2)).v,s,(s198_eq _ _ _ _).trans ?_,(by first|rfl|exact qai _|exact qaP _|exact qb5 _ _)⟩)
 obtain⟨i0,l0⟩:=qb8 (n:=N) (E:=E) (l:=[a,b]) (u:=a) rfl
 obtain⟨i1,l1⟩:=qdz (n:=N) (E:=E) (l:=[a,b]) (u:=b) rfl
 have f0:=fun s=>(kf (n:=N) (E:=E) (l:=[a,b]) (j:=0) (u:=a) rfl s).2.1
 have f1:=fun s=>(kf (n:=N) (E:=E) (l:=[a,b]) (j:=1) (u:=b) rfl s).2.1
 have hm0:m≠0:=by omega
 unfold s198
 rcases hn with rfl|rfl|rfl|rfl|rfl
 ·have e:qgF 1 m a.n b.n=(a.n+b.n).tmod m:=rfl
  rw[e] at h⊢
  have w:qbb .i64 (a.n+b.n)=a.n+b.n:=qbu (by omega) (by omega)
  simp only[true_or,if_true] at h⊢
  simp -implicitDefEqProofs only[i0,f0,i1,f1,w,qet _ _ _ hm0,h,qb3,qah,qb1,qef,qbj,qav,qad,qaf,qaw,zaj,decide_true,decide_false,qaa,cond_true,cond_false,zab,zaa,qab,Tm.n_mk,Tm.m_mk,Tm.ks_mk]
 ·have e:qgF 2 m a.n b.n=(a.n-b.n+m).tmod m:=rfl
  rw[e] at h⊢
  have w:qbb .i64 (a.n-b.n)=a.n-b.n:=qbu (by omega) (by omega)
  have w2:qbb .i64 (a.n-b.n+m)=a.n-b.n+m:=qbu (by omega) (by omega)
  simp only[true_or,or_true,if_true] at h⊢
  simp -implicitDefEqProofs only[i0,f0,i1,f1,w,w2,qet _ _ _ hm0,h,qb3,qah,qb1,qef,qbj,qav,qad,qaf,qaw,qa2,zaj,decide_true,decide_false,qaa,cond_true,cond_false,zab,zaa,qab,Tm.n_mk,Tm.m_mk,Tm.ks_mk]
 ·have e:qgF 3 m a.n b.n=(a.n*b.n).tmod m:=rfl
  rw[e] at h⊢
  have h64:a.n*b.n<=64*64:=Int.mul_le_mul (by omega) (by omega) (by omega) (by omega)
  have h0:0<=a.n*b.n:=Int.mul_nonneg ha.1 hb.1
  have w:qbb .i64 (a.n*b.n)=a.n*b.n:=qbu (by omega) (by omega)
  simp only[or_true,if_true] at h⊢
  simp -implicitDefEqProofs only[i0,f0,i1,f1,w,qpu,qet _ _ _ hm0,h,qb3,qah,qb1,qef,qbj,qav,qad,qaf,zaj,decide_true,decide_false,qaa,cond_true,cond_false,zab,zaa,qab,Tm.n_mk,Tm.m_mk,Tm.ks_mk]
 ·have e:qgF 4 m a.n b.n=cond (decide (a.n=b.n)) 1 0:=rfl
  rw[e] at h⊢
  simp only[zaj,or_self,if_false] at h⊢
  simp -implicitDefEqProofs only[i0,f0,i1,f1,h,h1,qb3,qah,qb1,qef,qbj,qav,qad,qaf,zaj,decide_true,decide_false,qaa,cond_true,cond_false,zab,zaa,qab,Tm.n_mk,Tm.m_mk,Tm.ks_mk]
 ·have e:qgF 5 m a.n b.n=cond (decide (a.n<b.n)) 1 0:=rfl
  rw[e] at h⊢
  simp only[zaj,or_self,if_false] at h⊢
  simp -implicitDefEqProofs only[i0,f0,i1,f1,h,h2,qb3,qah,qb1,qef,qbj,qav,qad,qaf,qao,zaj,decide_false,qaa,cond_false,zab,zaa,qab,Tm.n_mk,Tm.m_mk,Tm.ks_mk]
end Go.AI.Tryz
namespace Go.AI.Tryz
abbrev zT:zA:=.agg [u8 0,i64 0,i64 0,i64 0,.sl 0 [] .full]
def qiL:Option Tm->zA
 |some t=> .tuple [t.v,bl true]
 |none=> .tuple [zT,bl false]
theorem qcn (o:Option Tm):qaD (qiL o)=qc8 o:=by
 cases o with
 |none=>rfl
 |some t=>exact qaP (some t)
theorem qa4 (t:Tm):qiL (some t)=.tuple [t.v,bl true]:=rfl
theorem qaA:qiL none=.tuple [zT,bl false]:=rfl
theorem bdZ:bd [u8 0,i64 0,i64 0,i64 0,.sl 0 [] .full] []=some zT:=rfl
theorem qb6 (t:Tm):cut t.c 4 1=some [kv t.ks]:=rfl
theorem qf9 (t:Tm)(l:List Tm)(tk:Tk){n':Nat}(h:∀E s,cl (qag CP n' E) 200 [t.v,kv l] s=some ((t.with l).v,s))(E:qaR)(s:ASt):cl (qag CP n' E) 200 [t.v,.sl l.length (Tm.cellsL l) tk] s=some ((t.with l).v,s):=by
 rw[qfC (cf:=cf200) (by kernel_rfl) (by kernel_rfl)]
 simp only[zam,zbn,qai]
 exact h E s
theorem qr6 {x:Sc}{n m:Int}{a b:Tm}(h:Nd x (.op n m a b)):(1<=m/\m<=64)/\(n=1\/n=2\/n=3\/n=4\/n=5)/\szF x a=(m,true)/\szF x b=(m,true)/\(szF x (.op n m a b)).1=if n=1\/n=2\/n=3 then m else 2:=by
 have hs:=h.gd.sz (by simp[Tm.k]) (by simp[Tm.k])
 rw[qeQ] at hs⊢
 split at hs
 ·rename_i h1
  have hin:qbd m=true/\is2 (szF x a) m=true/\is2 (szF x b) m=true:=by simpa only[zag] using hs
  obtain⟨g1,g2,g3⟩:=hin
  rw[is2_iff] at g2 g3
  rw[if_pos h1]
  exact⟨isSize_iff.1 g1,by omega,g2,g3,by rw[if_pos h1]⟩
 ·rename_i h1
  split at hs
  ·rename_i h2
   have hin:qbd m=true/\is2 (szF x a) m=true/\is2 (szF x b) m=true:=by simpa only[zag] using hs
   obtain⟨g1,g2,g3⟩:=hin
   rw[is2_iff] at g2 g3
   rw[if_neg h1,if_pos h2]
   exact⟨isSize_iff.1 g1,by omega,g2,g3,by rw[if_neg h1]⟩
  ·cases hs
theorem qwk {x:Sc}{t:Tm}{m:Int}(h:szF x t=(m,true))(hn:qaI t=true):0<=t.n/\t.n<64/\t.m=m:=by
 have:=qdR (x:=x) (by rw[h]) hn
 rw[h] at this
 simp only at this
 omega
def qwl (r:Int)(x:Sc)(t:Tm):Option Tm:=if r=1 then opR x t else if r=4 then qc0 t else if r=5 then qh2 t else none
theorem qwm {x:Sc}{n m:Int}{a b:Tm}(h:Nd x (.op n m a b))(r:Int):PC CP 174 [u8 r,(Tm.op n m a b).v] (qc8 (qwl r x (.op n m a b))):=by
 obtain⟨hm,hn,ha,hb,hsz⟩:=qr6 h
 have ra:=fun q=>qwk ha q
 have rb:=fun q=>qwk hb q
 have e1:opR x (.op n m a b)=if qaI a&&qaI b then some (.num (qgF n m a.n b.n) (if n=1\/n=2\/n=3 then m else 2)) else none:=by rw[<-hsz];rfl
 have e4:qc0 (.op n m a b)=if(qjP n).isSome&&(!qaI a&&(qaI b&&decide (b.n=(qjP n).getD 0))) then some a else none:=rfl
 have e5:qh2 (.op n m a b)=if(decide (n=1)||(decide (n=3)||decide (n=4)))&&(qaI a&&!qaI b) then some (.op n m b a) else none:=rfl
 have er:Ev fun N=>qaI a=true/\qaI b=true->∀E s,cl (qag CP N E) 198 [(Tm.op n m a b).v] s=some ((Tm.num (qgF n m a.n b.n) (if n=1\/n=2\/n=3 then m else 2)).v,s):=
  Ev.imp fun q=>qr5 n m a b hn hm ⟨(ra q.1).1,(ra q.1).2.1⟩ ⟨(rb q.2).1,(rb q.2).2.1⟩
 refine PC.of2 (cf:=cf174) (np:=2) (args':=[u8 r,(Tm.op n m a b).v]) (by kernel_rfl) (by kernel_rfl) rfl (by simp only[zap,qak];rfl) (by simp only[zam,qai];rfl) (fun lo=>qaW lo _)
  ((((qbZ a).and (qbZ b)).and (er.and (((qeN b 0 m).and (qeN b 1 m)).and (qeO (.op n m a b) [b,a])))).mono fun N ⟨⟨c1,c2⟩,c3,⟨c4,c5⟩,c6⟩ E s=>⟨qiL (qwl r x (.op n m a b)),s,(s174_eq _ _ _ _ _).trans ?_,qcn _⟩)
 obtain⟨i0,l0⟩:=qb8 (n:=N) (E:=E) (l:=[a,b]) (u:=a) rfl
 obtain⟨i1,l1⟩:=qdz (n:=N) (E:=E) (l:=[a,b]) (u:=b) rfl
 have c6:=qf9 (.op n m a b) [b,a] .full c6 E
 have e6:(Tm.op n m a b).with [b,a]=.op n m b a:=rfl
 rw[e6] at c6
 simp only[zar,zaB,zaK,Nat.reduceAdd] at c6
 have hmb:qaI b=true->b.m=m:=fun q=>(rb q).2.2
 unfold s174 s174_2 s174_1 s174_0 qwl
 rw[e1,e4,e5]
 by_cases r1:r=1
 ·by_cases qa:qaI a=true
  ·by_cases qb:qaI b=true
   ·have c3:=c3 ⟨qa,qb⟩
    simp -implicitDefEqProofs only[i0,l0,i1,l1,qb6,qaz,zat,qb3,r1,c1,c2,c3,qa,qb,qa4,if_true,qah,qbj,qav,qad,qaf,zaj,decide_true,decide_false,zak,qaa,cond_true,cond_false,qaj,zab,zaa,qab,cnd,Tm.ks_mk]
   ·simp only[zaS] at qb
    simp -implicitDefEqProofs only[i0,l0,i1,l1,qb6,qaz,zat,zaT,qb3,r1,c1,c2,qa,qb,qaA,bdZ,z5c,z5o,z5l,if_true,if_false,zai,qah,qbj,qav,qad,qaf,zaj,decide_true,decide_false,zak,zal,qaa,cond_true,cond_false,qaj,zab,zaa,qab,cnd,Tm.ks_mk]
  ·simp only[zaS] at qa
   simp -implicitDefEqProofs only[i0,l0,i1,l1,qb6,qaz,zat,zav,qb3,r1,c1,c2,qa,qaA,bdZ,z5c,z5o,z5l,if_true,if_false,zai,qah,qbj,qav,qad,qaf,zaj,decide_true,decide_false,zal,qaa,cond_true,cond_false,qaj,zab,zaa,qab,cnd,Tm.ks_mk]
 ·by_cases r4:r=4
  ·by_cases qa:qaI a=true
   ·simp -implicitDefEqProofs only[i0,l0,i1,l1,qb6,qaz,zat,zaT,zav,qb3,r4,c1,qa,qaA,bdZ,z5c,z5o,z5l,if_true,if_false,zai,qah,qb1,qef,qbj,qav,qad,qaf,zaj,decide_true,decide_false,zak,qaa,cond_true,cond_false,qaj,zab,zaa,qab,qam,cnd,Tm.n_mk,Tm.m_mk,Tm.ks_mk]
   ·simp only[zaS] at qa
    by_cases qb:qaI b=true
    ·have t0:qbJ b 0 m=decide (b.n=0):=by simp[qbJ,qb,hmb qb]
     have t1:qbJ b 1 m=decide (b.n=1):=by simp[qbJ,qb,hmb qb]
     have u:¬((0:Int)=1):=by decide
     rw[t0] at c4
     rw[t1] at c5
     rcases hn with rfl|rfl|rfl|rfl|rfl<;>by_cases v0:b.n=0<;>by_cases v1:b.n=1<;>first|(exfalso;omega)|simp -implicitDefEqProofs only[i0,l0,i1,l1,qb6,qaz,zat,zaT,za7,qb3,r4,c1,c4,c5,qa,qb,v0,v1,u,qjP,qaA,qa4,bdZ,z5c,z5o,z5l,if_true,if_false,zai,qah,qb1,qef,qbj,qav,qad,qaf,zaj,decide_true,decide_false,zak,zal,qaa,cond_true,cond_false,qaj,zab,zaa,qab,qam,cnd,Tm.n_mk,Tm.m_mk,Tm.ks_mk,zaE,zaR,zbj,zaG]
    ·simp only[zaS] at qb
     have t0:qbJ b 0 m=false:=by simp[qbJ,qb]
     have t1:qbJ b 1 m=false:=by simp[qbJ,qb]
     rw[t0] at c4
     rw[t1] at c5
     simp -implicitDefEqProofs only[i0,l0,i1,l1,qb6,qaz,zat,zaT,zav,qb3,r4,c1,c4,c5,qa,qb,qaA,bdZ,z5c,z5o,z5l,if_true,if_false,zai,qah,qb1,qef,qbj,qav,qad,qaf,zaj,decide_true,decide_false,zal,qaa,cond_true,cond_false,qaj,zab,zaa,qab,qam,cnd,Tm.n_mk,Tm.m_mk,Tm.ks_mk]
  ·by_cases r5:r=5
   ·by_cases qa:qaI a=true
    ·by_cases qb:qaI b=true
     ·simp -implicitDefEqProofs only[i0,l0,i1,l1,qb6,qaz,zat,zaT,zav,zay,qb3,r5,c1,c2,qa,qb,qaA,bdZ,z5c,z5o,z5l,if_true,if_false,zai,qah,qb1,qbj,qav,qad,qaf,zaj,decide_true,decide_false,zak,qaa,cond_true,cond_false,qaj,zab,zaa,qab,qam,cnd,Tm.n_mk,Tm.ks_mk]
     ·simp only[zaS] at qb
      rcases hn with rfl|rfl|rfl|rfl|rfl<;>simp -implicitDefEqProofs only[i0,l0,i1,l1,qb6,qaz,zat,zaT,zav,Bool.or_true,zbl,za6,qb3,qrG,r5,c1,c2,c6,qa,qb,qaA,qa4,bdZ,z5c,z5o,z5l,if_true,if_false,zai,qah,qb1,qbj,qav,qad,qaf,zaj,decide_true,decide_false,zak,zal,qaa,cond_true,cond_false,qaj,zab,zaa,qab,qam,cnd,Tm.n_mk,Tm.ks_mk]
    ·simp only[zaS] at qa
     simp -implicitDefEqProofs only[i0,l0,i1,l1,qb6,qaz,zat,zaT,zav,zay,qb3,r5,c1,c2,qa,qaA,bdZ,z5c,z5o,z5l,if_true,if_false,zai,qah,qb1,qbj,qav,qad,qaf,zaj,decide_true,decide_false,zal,qaa,cond_true,cond_false,qaj,zab,zaa,qab,qam,cnd,Tm.n_mk,Tm.ks_mk]
   ·simp -implicitDefEqProofs only[i0,l0,i1,l1,qb6,qaz,zat,r1,r4,r5,qaA,bdZ,z5c,z5o,z5l,if_false,qah,qbj,qav,qad,qaf,decide_false,qaa,cond_false,qaj,zab,zaa,qab,cnd,Tm.ks_mk]
end Go.AI.Tryz
namespace Go.AI.Tryz
structure Rd (x:Sc)(t:Tm):Prop where
 nd:Nd x t
 g:ScG x
 top:x.top<=Int.ofNat x.ids.length
 lab:x.size+t.size<=600
 len:x.ids.length+t.size<=900000
theorem qul (x:Sc)(t:Tm)(j:Nat):(x.kid t j).ids.length<=x.ids.length+1/\(x.kid t j).size<=x.size+1:=by
 unfold Sc.kid
 split
 ·simp only[Sc.with,zaw,zar,zaB];omega
 ·split
  ·simp only[Sc.with,zaw,zar,zaB];omega
  ·split
   ·exact⟨Nat.le_succ _,Int.le_refl _⟩
   ·omega
theorem Rd.kid {x:Sc}{t u:Tm}{j:Nat}(h:Rd x t)(hu:t.ks[j]? =some u):Rd (x.kid t j) u:=by
 have hlt:=qa5 (zaM hu)
 have hn:=h.nd.kid hu
 have hk:=qul x t j
 have hl:=h.lab
 have hl2:=h.len
 refine⟨hn,?_,qqz h.top,by omega,by omega⟩
 have hsc:=hn.sc
 have hw:∀y:Se,y.ty.ps=[]->y.arg=false\/y.ty.res.cell=false->ScOk (x.with y)->ScG (x.with y):=fun y h1 h2 h3=>by
  refine⟨h3,?_,?_⟩<;>(intro e he;simp only[Sc.with,zaI,zaV] at he;rcases he with he|rfl)
  ·exact h.g.cell e he
  ·intro hc
   rcases h2 with h2|h2
   ·exact⟨h1,h2⟩
   ·rw[h2] at hc;cases hc
  ·exact h.g.ps e he
  ·intro p hp;rw[h1] at hp;cases hp
 revert hsc
 unfold Sc.kid
 split
 ·exact hw _ rfl (.inl rfl)
 ·split
  ·exact hw _ rfl (.inr rfl)
  ·split
   ·exact fun h3=>⟨h3,h.g.cell,h.g.ps⟩
   ·exact fun h3=>⟨h3,h.g.cell,h.g.ps⟩
theorem Rd.sub {x:Sc}{t u:Tm}{j:Nat}(h:Rd x t)(hu:t.ks[j]? =some u)(hk:t.k≠10/\t.k≠11/\t.k≠17):Rd x u:=by
 have:=h.kid hu
 unfold Sc.kid at this
 rw[if_neg hk.1,if_neg (fun q=>hk.2.2 q.1),if_neg (fun q=>hk.2.1 q.1)] at this
 exact this
theorem Rd.psize {x:Sc}{u:Tm}(h:Rd x u)(hk:u.k≠16/\u.k≠17):PC CP 123 [pv x,u.v] (i64 (szF x u).1):=quk x u (by have:=h.lab;omega) h.nd h.g h.top hk h.len
theorem qjK (a b:zA):ldL [a,b] 0 (some 2)=some (.agg [a,b]):=rfl
theorem qqC {x:Sc}{c a b:Tm}(h:Nd x (.ite c a b)):(szF x c).2=true/\(szF x a).2=true/\(szF x b).2=true:=by
 have hs:=h.gd.sz (by simp[Tm.k]) (by simp[Tm.k])
 rw[qcA] at hs
 have hin:((szF x a).2=true/\is2 (szF x b) (szF x a).1=true)/\(szF x c).2=true:=by simpa only[zag] using hs
 rw[is2_iff] at hin
 exact⟨hin.2,hin.1.1,by rw[hin.1.2]⟩
def qwV (r:Int)(x:Sc)(t:Tm):Option Tm:=if r=6 then ifR t else if r=7 then qh3 t else if r=8 then qob t else if r=9 then qh4 x t else none
theorem qxU {x:Sc}{t:Tm}{r:Int}{o:Option Tm}(h:Ev fun N=>∀E s,∃v,s177 (qag CP N E) N (pv x) (u8 r) t.v s=some (v,s)/\qaD v=qc8 o):PC CP 177 [pv x,u8 r,t.v] (qc8 o):=
 PC.of2 (cf:=cf177) (np:=3) (args':=[pv x,u8 r,t.v]) (by kernel_rfl) (by kernel_rfl) rfl (by simp only[zap,qak];rfl) (by simp only[zam,qai];rfl) (fun lo=>qaW lo _)
  (h.mono fun N h E s=>by
   obtain⟨v,h1,h2⟩:=h E s
   exact⟨v,s,(s177_eq _ _ _ _ _ _).trans h1,h2⟩)
theorem qwn {x:Sc}{c a b:Tm}(h:Rd x (.ite c a b))(r:Int):PC CP 177 [pv x,u8 r,(Tm.ite c a b).v] (qc8 (qwV r x (.ite c a b))):=by
 obtain⟨hc,ha,hb⟩:=qqC h.nd
 refine qxU ?_
 unfold qwV
 by_cases r6:r=6
 ·rw[if_pos r6]
  have e:ifR (.ite c a b)=if qaI c then some (if c.n=0 then b else a) else none:=rfl
  rw[e]
  refine(qbZ c).mono fun N c1 E s=>⟨qiL _,?_,qcn _⟩
  obtain⟨i0,l0⟩:=qb8 (n:=N) (E:=E) (l:=[c,a,b]) (u:=c) rfl
  obtain⟨i1,l1⟩:=qdz (n:=N) (E:=E) (l:=[c,a,b]) (u:=a) rfl
  obtain⟨i2,l2⟩:=qn5 (n:=N) (E:=E) (l:=[c,a,b]) (u:=b) rfl
  unfold s177 s177_4 s177_3 s177_2 s177_1 s177_0
  by_cases qc:qaI c=true
  ·by_cases q0:c.n=0<;>simp -implicitDefEqProofs only[pvc,i0,l0,i1,l1,i2,l2,qb6,qaz,zat,qb3,r6,c1,qc,q0,qa4,if_true,if_false,qah,qb1,qbj,qav,qad,qaf,qa1,zaj,decide_true,decide_false,zak,zal,qaa,cond_true,cond_false,qaj,zab,zaa,qab,cnd,Tm.ks_mk]
  ·simp only[zaS] at qc
   simp -implicitDefEqProofs only[pvc,i0,l0,i1,l1,i2,l2,qb6,qaz,zat,qb3,r6,c1,qc,bdZ,z5c,z5o,z5l,qaA,if_false,zai,qah,qb1,qbj,qav,qad,qaf,qa1,zaj,decide_true,decide_false,qaa,cond_true,cond_false,qaj,zab,zaa,qab,cnd,Tm.ks_mk]
 rw[if_neg r6]
 by_cases r7:r=7
 ·rw[if_pos r7]
  have e:qh3 (.ite c a b)=if !qaI c&&decide (a=b) then some (.seq (.az 1 c) a) else none:=rfl
  rw[e]
  refine((qbZ c).and (qmZ a b (h.nd.ok.kids a (by simp[Tm.ks])))).mono fun N ⟨c1,c2⟩ E s=>?_
  obtain⟨i0,l0⟩:=qb8 (n:=N) (E:=E) (l:=[c,a,b]) (u:=c) rfl
  obtain⟨i1,l1⟩:=qdz (n:=N) (E:=E) (l:=[c,a,b]) (u:=a) rfl
  obtain⟨i2,l2⟩:=qn5 (n:=N) (E:=E) (l:=[c,a,b]) (u:=b) rfl
  have hb1:bd [u8 0,i64 0,i64 0,i64 0,.sl 0 [] .full] [(0,none,.c (u8 6)),(1,none,.c (i64 1)),(4,none,.c (.sl 1 (Tm.cellsL [c]) .full))]=some (.agg [u8 6,i64 1,i64 0,i64 0,.sl 1 (Tm.cellsL [c]) .full]):=rfl
  have hms:ms 2 [.int .u8 0,.int .i64 0,.int .i64 0,.int .i64 0,.sl 0 [],.int .u8 0,.int .i64 0,.int .i64 0,.int .i64 0,.sl 0 []] [(0,some 5,.c (.agg [u8 6,i64 1,i64 0,i64 0,.sl 1 (Tm.cellsL [c]) .full])),(5,some 5,.c a.v)]=some (.sl 2 (Tm.cellsL [.az 1 c,a]) .full):=by cases a;rfl
  have hb2:bd [u8 0,i64 0,i64 0,i64 0,.sl 0 [] .full] [(0,none,.c (u8 7)),(4,none,.c (.sl 2 (Tm.cellsL [.az 1 c,a]) .full))]=some (.agg [u8 7,i64 0,i64 0,i64 0,.sl 2 (Tm.cellsL [.az 1 c,a]) .full]):=rfl
  unfold s177 s177_4 s177_3 s177_2 s177_1 s177_0
  by_cases qc:qaI c=true
  ·refine⟨qiL _,?_,qcn _⟩
   simp -implicitDefEqProofs only[pvc,i0,l0,i1,l1,i2,l2,qb6,qaz,zat,zav,qb3,r7,c1,qc,bdZ,z5c,z5o,z5l,qaA,if_false,zai,qah,qbj,qav,qad,qaf,zaj,decide_true,decide_false,zak,qaa,cond_true,cond_false,qaj,zab,zaa,qab,qam,cnd,Tm.ks_mk]
  ·simp only[zaS] at qc
   by_cases q:a=b
   ·refine⟨.tuple [.agg [u8 7,i64 0,i64 0,i64 0,.sl 2 (Tm.cellsL [.az 1 c,a]) .full],bl true],?_,?_⟩
    ·rw[decide_eq_true q] at c2
     simp -implicitDefEqProofs only[pvc,i0,l0,i1,l1,i2,l2,qb6,qaz,zat,qb3,qpN,hb1,hms,hb2,r7,c1,c2,qc,z5c,z5o,z5l,qah,qbj,qav,qad,qaf,zaj,decide_true,decide_false,zal,qaa,cond_true,cond_false,qaj,zab,zaa,qab,qam,cnd,Tm.ks_mk]
    ·rw[qc,decide_eq_true q]
     simp only[zal,zat,if_true]
     rw[qc8,zaE,Tm.v_eq]
     rfl
   ·refine⟨qiL _,?_,qcn _⟩
    rw[decide_eq_false q] at c2⊢
    simp -implicitDefEqProofs only[pvc,i0,l0,i1,l1,i2,l2,qb6,qaz,zat,zaT,qb3,r7,c1,c2,qc,bdZ,z5c,z5o,z5l,qaA,if_false,zai,qah,qbj,qav,qad,qaf,zaj,decide_true,decide_false,zal,qaa,cond_true,cond_false,qaj,zab,zaa,qab,qam,cnd,Tm.ks_mk]
 rw[if_neg r7]
 by_cases r8:r=8
 ·rw[if_pos r8]
  by_cases hk:c.k=8
  ·cases qdj hc with
   |ite p q w=>
    have e:qob (.ite (.ite p q w) a b)=if qbJ q 0 2&&qbJ w 1 2 then some (.ite p b a) else none:=rfl
    rw[e]
    refine(((qbZ (.ite p q w)).and (qeO (.ite (.ite p q w) a b) [p,b,a])).and ((qeN q 0 2).and (qeN w 1 2))).mono fun N ⟨⟨c1,c2⟩,c3,c4⟩ E s=>⟨qiL _,?_,qcn _⟩
    obtain⟨i0,l0⟩:=qb8 (n:=N) (E:=E) (l:=[.ite p q w,a,b]) (u:=.ite p q w) rfl
    obtain⟨i1,l1⟩:=qdz (n:=N) (E:=E) (l:=[.ite p q w,a,b]) (u:=a) rfl
    obtain⟨i2,l2⟩:=qn5 (n:=N) (E:=E) (l:=[.ite p q w,a,b]) (u:=b) rfl
    obtain⟨j0,m0⟩:=qb8 (n:=N) (E:=E) (l:=[p,q,w]) (u:=p) rfl
    obtain⟨j1,m1⟩:=qdz (n:=N) (E:=E) (l:=[p,q,w]) (u:=q) rfl
    obtain⟨j2,m2⟩:=qn5 (n:=N) (E:=E) (l:=[p,q,w]) (u:=w) rfl
    have c2:=qf9 _ _ .full c2 E
    have e6:(Tm.ite (.ite p q w) a b).with [p,b,a]=.ite p b a:=rfl
    rw[e6] at c2
    simp only[zar,zaB,zaK,Nat.reduceAdd] at c2
    unfold s177 s177_4 s177_3 s177_2 s177_1 s177_0
    by_cases q1:qbJ q 0 2=true
    ·by_cases q2:qbJ w 1 2=true
     ·simp -implicitDefEqProofs only[pvc,i0,l0,i1,l1,i2,l2,j0,m0,j1,m1,j2,m2,qx5,c2,qb6,qaz,zat,qb3,r8,c3,c4,q1,q2,qa4,if_true,qah,qbc,qbj,qav,qad,qaf,zaj,decide_true,decide_false,qaa,cond_true,cond_false,qaj,zab,zaa,qab,cnd,Tm.k_mk,Tm.ks_mk]
     ·simp only[zaS] at q2
      simp -implicitDefEqProofs only[pvc,i0,l0,i1,l1,i2,l2,j0,m0,j1,m1,j2,m2,qb6,qaz,zat,zaT,qb3,r8,c3,c4,q1,q2,bdZ,z5c,z5o,z5l,qaA,if_false,zai,qah,qbc,qbj,qav,qad,qaf,zaj,decide_true,decide_false,qaa,cond_true,cond_false,qaj,zab,zaa,qab,cnd,Tm.k_mk,Tm.ks_mk]
    ·simp only[zaS] at q1
     simp -implicitDefEqProofs only[pvc,i0,l0,i1,l1,i2,l2,j0,m0,j1,m1,j2,m2,qb6,qaz,zat,zav,qb3,r8,c3,c4,q1,bdZ,z5c,z5o,z5l,qaA,if_false,zai,qah,qbc,qbj,qav,qad,qaf,zaj,decide_true,decide_false,qaa,cond_true,cond_false,qaj,zab,zaa,qab,cnd,Tm.k_mk,Tm.ks_mk]
   |_=>simp only[Tm.k_mk] at hk;omega
  ·have e:qob (.ite c a b)=none:=by
    show(if c.k=8 then _ else none)=none
    rw[if_neg hk]
   rw[e]
   refine(qbZ c).mono fun N c1 E s=>⟨qiL _,?_,qcn _⟩
   obtain⟨i0,l0⟩:=qb8 (n:=N) (E:=E) (l:=[c,a,b]) (u:=c) rfl
   obtain⟨i1,l1⟩:=qdz (n:=N) (E:=E) (l:=[c,a,b]) (u:=a) rfl
   obtain⟨i2,l2⟩:=qn5 (n:=N) (E:=E) (l:=[c,a,b]) (u:=b) rfl
   unfold s177 s177_4 s177_3 s177_2 s177_1 s177_0
   simp -implicitDefEqProofs only[pvc,i0,l0,i1,l1,i2,l2,qb6,qaz,zat,qb3,r8,hk,bdZ,z5c,z5o,z5l,qaA,qah,qbc,qbj,qav,qad,qaf,zaj,decide_true,decide_false,qaa,cond_true,cond_false,qaj,zab,zaa,qab,cnd,Tm.ks_mk]
 rw[if_neg r8]
 by_cases r9:r=9
 ·rw[if_pos r9]
  have e:qh4 x (.ite c a b)=if qbJ a 1 2&&(qbJ b 0 2&&(!qaI c&&decide ((szF x c).1=2))) then some c else none:=rfl
  rw[e]
  refine(((qbZ c).and ((h.sub (j:=0) (u:=c) rfl (by simp[Tm.k])).psize (quO hc))).and ((qeN a 1 2).and (qeN b 0 2))).mono fun N ⟨⟨c1,c2⟩,c3,c4⟩ E s=>⟨qiL _,?_,qcn _⟩
  obtain⟨i0,l0⟩:=qb8 (n:=N) (E:=E) (l:=[c,a,b]) (u:=c) rfl
  obtain⟨i1,l1⟩:=qdz (n:=N) (E:=E) (l:=[c,a,b]) (u:=a) rfl
  obtain⟨i2,l2⟩:=qn5 (n:=N) (E:=E) (l:=[c,a,b]) (u:=b) rfl
  unfold s177 s177_4 s177_3 s177_2 s177_1 s177_0
  generalize (szF x c).1=z at c2⊢
  by_cases qc:qaI c=true
  ·simp -implicitDefEqProofs only[pvc,i0,l0,i1,l1,i2,l2,qb6,qaz,zat,zaT,zav,qb3,r9,c1,qc,bdZ,z5c,z5o,z5l,qaA,if_false,zai,qah,qbj,qav,qad,qaf,zaj,decide_true,decide_false,zak,qaa,cond_true,cond_false,qaj,zab,zaa,qab,qam,cnd,Tm.ks_mk]
  ·simp only[zaS] at qc
   by_cases qz:z=2<;>by_cases q1:qbJ a 1 2=true<;>by_cases q2:qbJ b 0 2=true<;>(try simp only[zaS] at q1)<;>(try simp only[zaS] at q2)<;>
    simp -implicitDefEqProofs only[pvc,qjK,i0,l0,i1,l1,i2,l2,qb6,qaz,zat,zaT,zav,qb3,r9,c1,c2,c3,c4,qc,qz,q1,q2,bdZ,z5c,z5o,z5l,qa4,qaA,if_true,if_false,zai,qah,qbj,qav,qad,qaf,zaj,decide_true,decide_false,zal,qaa,cond_true,cond_false,qaj,zab,zaa,qab,qam,cnd,Tm.ks_mk]
 rw[if_neg r9]
 refine ev0.mono fun N _ E s=>⟨qiL _,?_,qcn _⟩
 obtain⟨i0,l0⟩:=qb8 (n:=N) (E:=E) (l:=[c,a,b]) (u:=c) rfl
 obtain⟨i1,l1⟩:=qdz (n:=N) (E:=E) (l:=[c,a,b]) (u:=a) rfl
 obtain⟨i2,l2⟩:=qn5 (n:=N) (E:=E) (l:=[c,a,b]) (u:=b) rfl
 unfold s177 s177_4 s177_3 s177_2 s177_1 s177_0
 simp -implicitDefEqProofs only[pvc,i0,l0,i1,l1,i2,l2,qb6,qaz,zat,r6,r7,r8,r9,bdZ,z5c,z5o,z5l,qaA,qah,qbj,qav,qad,qaf,decide_false,qaa,cond_false,qaj,zab,zaa,qab,cnd,Tm.ks_mk]
end Go.AI.Tryz
namespace Go.AI.Tryz
theorem qqD {x:Sc}{a b:Tm}(h:Nd x (.seq a b)):(szF x a).2=true/\(szF x b).2=true/\(szF x (.seq a b)).1=(szF x b).1:=by
 have hs:=h.gd.sz (by simp[Tm.k]) (by simp[Tm.k])
 rw[qb2] at hs⊢
 have hin:(szF x b).2=true/\is2 (szF x a) 1=true:=by simpa only[zag] using hs
 rw[is2_iff] at hin
 exact⟨by rw[hin.2],hin.1,rfl⟩
def qr7 (r:Int)(x:Sc)(t:Tm):Option Tm:=if r=10 then qh5 t else if r=11 then qf0 t else if r=12 then qf1 x t else if r=17 then qdS x t else none
theorem qxV {x:Sc}{t:Tm}{r:Int}{o:Option Tm}(h:Ev fun N=>∀E s,s178 (qag CP N E) N (pv x) (u8 r) t.v s=some (qiL o,s)):PC CP 178 [pv x,u8 r,t.v] (qc8 o):=
 PC.of2 (cf:=cf178) (np:=3) (args':=[pv x,u8 r,t.v]) (by kernel_rfl) (by kernel_rfl) rfl (by simp only[zap,qak];rfl) (by simp only[zam,qai];rfl) (fun lo=>qaW lo _)
  (h.mono fun N h E s=>⟨qiL o,s,(s178_eq _ _ _ _ _ _).trans (h E s),qcn _⟩)
theorem qum {x:Sc}{a b:Tm}(h:Rd x (.seq a b))(r:Int):PC CP 178 [pv x,u8 r,(Tm.seq a b).v] (qc8 (qr7 r x (.seq a b))):=by
 obtain⟨ha,hb,hsz⟩:=qqD h.nd
 have e17:∀u w:Tm,(Tm.seq a b).with [u,w]=.seq u w:=fun _ _=>rfl
 refine qxV ?_
 unfold qr7
 by_cases r10:r=10
 ·rw[if_pos r10]
  have e:qh5 (.seq a b)=if qaI a then some b else none:=rfl
  rw[e]
  refine(qbZ a).mono fun N c1 E s=>?_
  obtain⟨i0,l0⟩:=qb8 (n:=N) (E:=E) (l:=[a,b]) (u:=a) rfl
  obtain⟨i1,l1⟩:=qdz (n:=N) (E:=E) (l:=[a,b]) (u:=b) rfl
  unfold s178 s178_3 s178_2 s178_1 s178_0
  by_cases qc:qaI a=true
  ·simp -implicitDefEqProofs only[pvc,i0,l0,i1,l1,qb6,qaz,zat,qb3,r10,c1,qc,qa4,if_true,qah,qbj,qav,qad,qaf,zaj,decide_true,decide_false,qaa,cond_true,cond_false,qaj,zab,zaa,qab,cnd,Tm.ks_mk]
  ·simp only[zaS] at qc
   simp -implicitDefEqProofs only[pvc,i0,l0,i1,l1,qb6,qaz,zat,qb3,r10,c1,qc,bdZ,z5c,z5o,z5l,qaA,if_false,zai,qah,qbj,qav,qad,qaf,zaj,decide_true,decide_false,qaa,cond_true,cond_false,qaj,zab,zaa,qab,cnd,Tm.ks_mk]
 rw[if_neg r10]
 by_cases r11:r=11
 ·rw[if_pos r11]
  by_cases hk:a.k=7
  ·cases qdj ha with
   |seq p q=>
    have e:qf0 (.seq (.seq p q) b)=some (.seq p (.seq q b)):=rfl
    rw[e]
    refine((qeO (.seq (.seq p q) b) [q,b]).and (qeO (.seq (.seq p q) b) [p,.seq q b])).mono fun N ⟨c1,c2⟩ E s=>?_
    obtain⟨i0,l0⟩:=qb8 (n:=N) (E:=E) (l:=[.seq p q,b]) (u:=.seq p q) rfl
    obtain⟨i1,l1⟩:=qdz (n:=N) (E:=E) (l:=[.seq p q,b]) (u:=b) rfl
    obtain⟨j0,m0⟩:=qb8 (n:=N) (E:=E) (l:=[p,q]) (u:=p) rfl
    obtain⟨j1,m1⟩:=qdz (n:=N) (E:=E) (l:=[p,q]) (u:=q) rfl
    have c1:=qf9 _ _ .full c1 E
    have c2:=qf9 _ _ .full c2 E
    rw[e17] at c1 c2
    simp only[zar,zaB,zaK,Nat.reduceAdd] at c1 c2
    unfold s178 s178_3 s178_2 s178_1 s178_0
    simp -implicitDefEqProofs only[pvc,i0,l0,i1,l1,j0,m0,j1,m1,qrG,c1,c2,qb6,qaz,zat,qb3,r11,qa4,qah,qbc,qbj,qav,qad,qaf,zaj,decide_true,decide_false,qaa,cond_true,cond_false,qaj,zab,zaa,qab,cnd,Tm.k_mk,Tm.ks_mk]
   |_=>simp only[Tm.k_mk] at hk;omega
  ·have e:qf0 (.seq a b)=none:=by
    show(if a.k=7 then _ else none)=none
    rw[if_neg hk]
   rw[e]
   refine(qbZ a).mono fun N c1 E s=>?_
   obtain⟨i0,l0⟩:=qb8 (n:=N) (E:=E) (l:=[a,b]) (u:=a) rfl
   obtain⟨i1,l1⟩:=qdz (n:=N) (E:=E) (l:=[a,b]) (u:=b) rfl
   unfold s178 s178_3 s178_2 s178_1 s178_0
   simp -implicitDefEqProofs only[pvc,i0,l0,i1,l1,qb6,qaz,zat,qb3,r11,hk,bdZ,z5c,z5o,z5l,qaA,qah,qbc,qbj,qav,qad,qaf,zaj,decide_true,decide_false,qaa,cond_true,cond_false,qaj,zab,zaa,qab,cnd,Tm.ks_mk]
 rw[if_neg r11]
 by_cases r12:r=12
 ·rw[if_pos r12]
  have e:qf1 x (.seq a b)=if a.k=12\/a.k=14 then(if !decide (b=.num 0 (szF x b).1) then some (.seq a (.num 0 (szF x b).1)) else none) else none:=by rw[<-hsz];rfl
  rw[e]
  have hbz:decide (b=.num 0 (szF x b).1)=(qaI b&&decide (b.n=0)):=by
   cases qb:qaI b
   ·refine decide_eq_false fun q=>?_
    rw[q] at qb
    cases qb
   ·obtain⟨n,m,hnm⟩:=qeM (qdj hb) qb
    subst hnm
    have:(szF x (.num n m)).1=m:=by rw[qdB]
    rw[this]
    by_cases q:n=0
    ·subst q;simp[Tm.n]
    ·simp[Tm.n,q]
  rw[hbz]
  refine(((qbZ b).and ((h.sub (j:=1) (u:=b) rfl (by simp[Tm.k])).psize (quO hb))).and ((qle 0 (szF x b).1).and (qeO (.seq a b) [a,.num 0 (szF x b).1]))).mono fun N ⟨⟨c1,c2⟩,c3,c4⟩ E s=>?_
  obtain⟨i0,l0⟩:=qb8 (n:=N) (E:=E) (l:=[a,b]) (u:=a) rfl
  obtain⟨i1,l1⟩:=qdz (n:=N) (E:=E) (l:=[a,b]) (u:=b) rfl
  have c4:=qf9 _ _ .full c4 E
  rw[e17] at c4
  simp only[zar,zaB,zaK,Nat.reduceAdd] at c4
  unfold s178 s178_3 s178_2 s178_1 s178_0
  generalize (szF x b).1=z at c2 c3 c4⊢
  by_cases k12:a.k=12
  ·by_cases qb:qaI b=true
   ·by_cases q0:b.n=0<;>simp -implicitDefEqProofs only[pvc,qjK,i0,l0,i1,l1,qb6,qaz,zat,zaT,qb3,qrG,r12,k12,c1,c2,c3,c4,qb,q0,true_or,bdZ,z5c,z5o,z5l,qa4,qaA,if_true,if_false,zai,qah,qbc,qb1,qbj,qav,qad,qaf,zaj,decide_true,decide_false,zak,zal,qaa,cond_true,cond_false,qaj,zab,zaa,qab,qam,cnd,Tm.ks_mk]
   ·simp only[zaS] at qb
    simp -implicitDefEqProofs only[pvc,qjK,i0,l0,i1,l1,qb6,qaz,zat,zav,qb3,qrG,r12,k12,c1,c2,c3,c4,qb,true_or,bdZ,z5c,z5o,z5l,qa4,if_true,qah,qbc,qb1,qbj,qav,qad,qaf,zaj,decide_true,decide_false,zal,qaa,cond_true,cond_false,qaj,zab,zaa,qab,qam,cnd,Tm.ks_mk]
  ·by_cases k14:a.k=14
   ·by_cases qb:qaI b=true
    ·by_cases q0:b.n=0<;>simp -implicitDefEqProofs only[pvc,qjK,i0,l0,i1,l1,qb6,qaz,zat,zaT,qb3,qrG,r12,k14,c1,c2,c3,c4,qb,q0,or_true,bdZ,z5c,z5o,z5l,qa4,qaA,if_true,if_false,zai,qah,qbc,qb1,qbj,qav,qad,qaf,zaj,decide_true,decide_false,zak,zal,qaa,cond_true,cond_false,qaj,zab,zaa,qab,qam,cnd,Tm.ks_mk]
    ·simp only[zaS] at qb
     simp -implicitDefEqProofs only[pvc,qjK,i0,l0,i1,l1,qb6,qaz,zat,zav,qb3,qrG,r12,k14,c1,c2,c3,c4,qb,or_true,bdZ,z5c,z5o,z5l,qa4,if_true,qah,qbc,qb1,qbj,qav,qad,qaf,zaj,decide_true,decide_false,zal,qaa,cond_true,cond_false,qaj,zab,zaa,qab,qam,cnd,Tm.ks_mk]
   ·simp -implicitDefEqProofs only[pvc,i0,l0,i1,l1,qb6,qaz,zat,qb3,r12,k12,k14,or_self,bdZ,z5c,z5o,z5l,qaA,if_false,qah,qbc,qb1,qbj,qav,qad,qaf,zaj,decide_true,decide_false,qaa,cond_true,cond_false,qaj,zab,zaa,qab,qam,cnd,Tm.ks_mk]
 rw[if_neg r12]
 by_cases r17:r=17
 ·rw[if_pos r17]
  by_cases hk:a.k=4
  ·cases qdj ha with
   |put i u=>
    have e:qdS x (.seq (.put i u) b)=if decide (b.k=3)&&(decide (i=b.i)&&(decide (x.top<i)&&qaI u)) then some (.seq (.put i u) u) else none:=rfl
    rw[e]
    refine((qbZ u).and (qeO (.seq (.put i u) b) [.put i u,u])).mono fun N ⟨c1,c2⟩ E s=>?_
    obtain⟨i0,l0⟩:=qb8 (n:=N) (E:=E) (l:=[.put i u,b]) (u:=.put i u) rfl
    obtain⟨i1,l1⟩:=qdz (n:=N) (E:=E) (l:=[.put i u,b]) (u:=b) rfl
    obtain⟨j0,m0⟩:=qb8 (n:=N) (E:=E) (l:=[u]) (u:=u) rfl
    have c2:=qf9 _ _ .full c2 E
    rw[show(Tm.seq (.put i u) b).with [.put i u,u]=.seq (.put i u) u from rfl] at c2
    simp only[zar,zaB,zaK,Nat.reduceAdd] at c2
    rw[show decide (i=b.i)=decide (b.i=i) from decide_eq_decide.2 eq_comm]
    unfold s178 s178_3 s178_2 s178_1 s178_0
    by_cases q1:x.top<i
    ·by_cases q2:qaI u=true
     ·by_cases q3:b.k=3
      ·by_cases q4:b.i=i<;>simp -implicitDefEqProofs only[pvc,bs1,i0,l0,i1,l1,j0,m0,qb6,qaz,zat,zaT,zav,qb3,qrG,r17,c1,c2,q1,q2,q3,q4,bdZ,z5c,z5o,z5l,qa4,qaA,if_true,if_false,zai,qah,qbc,qcL,qbj,qav,qad,qaf,qaG,zaj,decide_true,decide_false,qaa,cond_true,cond_false,qaj,zab,zaa,qab,cnd,Tm.k_mk,Tm.i_mk,Tm.ks_mk]
      ·simp -implicitDefEqProofs only[pvc,bs1,i0,l0,i1,l1,j0,m0,qb6,qaz,zat,zav,qb3,r17,c1,q1,q2,q3,bdZ,z5c,z5o,z5l,qaA,if_false,zai,qah,qbc,qcL,qbj,qav,qad,qaf,qaG,zaj,decide_true,decide_false,qaa,cond_true,cond_false,qaj,zab,zaa,qab,cnd,Tm.k_mk,Tm.i_mk,Tm.ks_mk]
     ·simp only[zaS] at q2
      simp -implicitDefEqProofs only[pvc,bs1,i0,l0,i1,l1,j0,m0,qb6,qaz,zat,zaT,qb3,r17,c1,q1,q2,bdZ,z5c,z5o,z5l,qaA,if_false,zai,qah,qbc,qcL,qbj,qav,qad,qaf,qaG,zaj,decide_true,decide_false,qaa,cond_true,cond_false,qaj,zab,zaa,qab,cnd,Tm.k_mk,Tm.i_mk,Tm.ks_mk]
    ·simp -implicitDefEqProofs only[pvc,bs1,i0,l0,i1,l1,j0,m0,qb6,qaz,zat,zaT,zav,qb3,r17,q1,bdZ,z5c,z5o,z5l,qaA,if_false,zai,qah,qbc,qcL,qbj,qav,qad,qaf,qaG,zaj,decide_true,decide_false,qaa,cond_true,cond_false,qaj,zab,zaa,qab,cnd,Tm.k_mk,Tm.i_mk,Tm.ks_mk]
   |_=>simp only[Tm.k_mk] at hk;omega
  ·have e:qdS x (.seq a b)=none:=by
    show(if a.k=4 then _ else none)=none
    rw[if_neg hk]
   rw[e]
   refine(qbZ a).mono fun N c1 E s=>?_
   obtain⟨i0,l0⟩:=qb8 (n:=N) (E:=E) (l:=[a,b]) (u:=a) rfl
   obtain⟨i1,l1⟩:=qdz (n:=N) (E:=E) (l:=[a,b]) (u:=b) rfl
   unfold s178 s178_3 s178_2 s178_1 s178_0
   simp -implicitDefEqProofs only[pvc,i0,l0,i1,l1,qb6,qaz,zat,qb3,r17,hk,bdZ,z5c,z5o,z5l,qaA,qah,qbc,qcL,qbj,qav,qad,qaf,zaj,decide_true,decide_false,qaa,cond_true,cond_false,qaj,zab,zaa,qab,cnd,Tm.ks_mk]
 rw[if_neg r17]
 refine ev0.mono fun N _ E s=>?_
 obtain⟨i0,l0⟩:=qb8 (n:=N) (E:=E) (l:=[a,b]) (u:=a) rfl
 obtain⟨i1,l1⟩:=qdz (n:=N) (E:=E) (l:=[a,b]) (u:=b) rfl
 unfold s178 s178_3 s178_2 s178_1 s178_0
 simp -implicitDefEqProofs only[pvc,i0,l0,i1,l1,qb6,qaz,zat,r10,r11,r12,r17,bdZ,z5c,z5o,z5l,qaA,qah,qbj,qav,qad,qaf,decide_false,qaa,cond_false,qaj,zab,zaa,qab,cnd,Tm.ks_mk]
end Go.AI.Tryz
namespace Go.AI.Tryz
theorem e0j (j:Nat):(Int.ofNat j=0)=(j=0):=by simp only[zaf,eq_iff_iff];omega
theorem qqE:∀(d:Nat) (t:Tm) (x:Sc) (l:Int),t.size<=d->Nd x t->0<=l->l+t.size<=1000000->PC CP 180 [t.v,i64 l] (bl (t.any qcB l))
 |0,t,_,_,h,_,_,_=>by have:=t.size_pos;omega
 |d+1,t,x,l,hd,hn,h0,hl=>by
  have hlt:∀u∈t.ks,u.size<t.size:=fun u hu=>qa5 hu
  have hkl:t.ks.length<=1000000:=by
   have:=Tm.len_le_size t.ks
   have:=Tm.size_ks t
   omega
  let lj:Nat->Int:=fun j=>if decide (t.k=11)&&decide (j=0) then l+1 else l
  have hkids:Ev fun N=>∀p∈(List.range t.ks.length),∀u,t.ks[p]? =some u->∀E s,cl (qag CP N E) 180 [u.v,i64 (lj p)] s=some (bl (u.any qcB (lj p)),s):=
   Ev.all _ fun p hp=>by
    have hpl:=zba.1 hp
    have hm:=za4 hpl
    have hlj:lj p=l\/lj p=l+1:=by simp only[lj];split<;>simp
    have:=hlt _ hm
    exact(qqE d t.ks[p] (x.kid t p) (lj p) (by omega) (hn.kid (zah hpl)) (by omega) (by omega)).mono fun N h u hu=>by
     rw[zah hpl] at hu
     cases hu
     exact h
  refine PC.of2 (cf:=cf180) (np:=2) (args':=[t.v,i64 l]) (by kernel_rfl) (by kernel_rfl) rfl (by simp only[zap,qak];rfl) (by simp only[zam,qai];rfl) (fun _=>rfl)
   ((hkids.and (Ev.ge (t.ks.length+1))).mono fun N ⟨hk,hN⟩ E s=>⟨bl (t.any qcB l),s,(s180_eq _ _ _ _ _).trans ?_,rfl⟩)
  rw[Tm.any_eq]
  unfold s180
  by_cases k12:t.k=12
  ·have hks:t.ks=[]:=by
    cases hn.sh with
    |jmp n=>rfl
    |_=>simp[Tm.k] at k12
   rw[hks]
   simp -implicitDefEqProofs only[k12,qcB,Tm.anyK,Bool.or_false,zay,qah,qbc,qb1,qad,qaf,decide_true,qaa,cond_true,zab,zaa]
  ·have hle:qcB t l=false:=by simp[qcB,k12]
   rw[hle,za6]
   simp -implicitDefEqProofs only[k12,qah,qbc,qb1,qad,qaf,decide_false,qaa,cond_false,zab,zaa]
   unfold s180_2
   refine qck _ _ t.ks.length (fun j (L:zA->ASt->Res)=>L (i64 (.ofNat j)) s) (fun j=>some (bl (Tm.anyK qcB (decide (t.k=11)) l j (t.ks.drop j)),s)) (fun j L hj ih=>?_) (fun L=>?_) N 0 (zaY _) (by omega)
   ·have hkj:t.ks[j]? =some t.ks[j]:=zah hj
    have hc:=hk j (zba.2 hj) _ hkj E
    have hw:qbb .i64 (l+1)=l+1:=qbu (by omega) (by omega)
    rw[zaz hj]
    simp only[Tm.anyK]
    have fin:∀x1,x1=i64 (lj j)->s180_0 (qag CP N E) N t.c (i64 (.ofNat j)) s L x1=some (bl (Tm.any qcB t.ks[j] (lj j)||Tm.anyK qcB (decide (t.k=11)) l (j+1) (t.ks.drop (j+1))),s):=by
     rintro _ rfl
     unfold s180_0
     simp -implicitDefEqProofs only[Tm.ia_kid hj,Tm.ld_kid _ _ hkj,hc,qaN (show j<9223372036854775807 by omega),qbj,qad,qaw,qaa,zab,zaa,qab]
     cases Tm.any qcB t.ks[j] (lj j)
     ·simp only[cond_false,za6];exact ih
     ·rfl
    unfold s180_1
    generalize s180_0 (qag CP N E) N=G at fin⊢
    by_cases k11:t.k=11
    ·by_cases j0:j=0
     ·have e:lj j=l+1:=by simp only[lj,k11,j0,decide_true,zat,if_true]
      have:=fin _ rfl
      rw[e] at this
      simp only[k11,j0] at this
      simp -implicitDefEqProofs only[k11,j0,e0j,hw,this,zat,if_true,qbc,qbj,qad,qaf,qao,qaw,decide_true,qaa,cond_true,qaj,zab,zaa,qbq]
      simp -implicitDefEqProofs only[j0] at hj⊢
      simp -implicitDefEqProofs only[of_lt.2 hj,decide_true,cond_true]
     ·have e:lj j=l:=by simp only[lj,j0,decide_false,zaT,zai,if_false]
      have:=fin _ rfl
      rw[e] at this
      simp only[k11] at this
      simp -implicitDefEqProofs only[k11,j0,e0j,of_lt.2 hj,this,zaT,zai,if_false,qbc,qbj,qad,qaf,qao,qaw,decide_true,decide_false,qaa,cond_true,cond_false,qaj,zab,zaa,qbq]
    ·have e:lj j=l:=by simp only[lj,k11,decide_false,zav,zai,if_false]
     have:=fin _ rfl
     rw[e] at this
     simp only[k11] at this
     simp -implicitDefEqProofs only[k11,of_lt.2 hj,this,zav,zai,if_false,qbc,qbj,qad,qaf,qao,qaw,decide_true,decide_false,qaa,cond_true,cond_false,qaj,zab,zaa,qbq]
   ·have h3:¬(Int.ofNat t.ks.length<Int.ofNat t.ks.length):=fun h=>zaX _ (of_lt.1 h)
    rw[List.drop_of_length_le (zan _)]
    simp -implicitDefEqProofs only[h3,Tm.anyK,qbc,qbj,qad,qaf,qao,decide_false,qaa,cond_false,qaj,zab,zaa,qbq]
end Go.AI.Tryz
namespace Go.AI.Tryz
theorem qqF (ar:Int):∀(d:Nat) (t:Tm) (l:Int),t.size<=d->t.size<=900000->PC CP 182 [t.v,i64 ar] (bl (!t.any (qd8 ar) l))
 |0,t,_,h,_=>by have:=t.size_pos;omega
 |d+1,t,l,hd,hs=>by
  have hlt:∀u∈t.ks,u.size<t.size:=fun u hu=>qa5 hu
  have hkl:t.ks.length<=1000000:=by
   have:=Tm.len_le_size t.ks
   have:=Tm.size_ks t
   omega
  let lj:Nat->Int:=fun j=>if decide (t.k=11)&&decide (j=0) then l+1 else l
  have hkids:Ev fun N=>∀p∈(List.range t.ks.length),∀u,t.ks[p]? =some u->∀E s,cl (qag CP N E) 182 [u.v,i64 ar] s=some (bl (!u.any (qd8 ar) (lj p)),s):=
   Ev.all _ fun p hp=>by
    have hpl:=zba.1 hp
    have:=hlt _ (za4 hpl)
    exact(qqF ar d t.ks[p] (lj p) (by omega) (by omega)).mono fun N h u hu=>by
     rw[zah hpl] at hu
     cases hu
     exact h
  refine PC.of2 (cf:=cf182) (np:=2) (args':=[t.v,i64 ar]) (by kernel_rfl) (by kernel_rfl) rfl (by simp only[zap,qak];rfl) (by simp only[zam,qai];rfl) (fun _=>rfl)
   ((hkids.and (Ev.ge (t.ks.length+1))).mono fun N ⟨hk,hN⟩ E s=>⟨bl (!t.any (qd8 ar) l),s,(s182_eq _ _ _ _ _).trans ?_,rfl⟩)
  rw[Tm.any_eq]
  have hloop:s182_0 (qag CP N E) N t.c (i64 ar) (i64 0) s=some (bl (!Tm.anyK (qd8 ar) (decide (t.k=11)) l 0 t.ks),s):=by
   unfold s182_0
   refine qck _ _ t.ks.length (fun j (L:zA->ASt->Res)=>L (i64 (.ofNat j)) s) (fun j=>some (bl (!Tm.anyK (qd8 ar) (decide (t.k=11)) l j (t.ks.drop j)),s)) (fun j L hj ih=>?_) (fun L=>?_) N 0 (zaY _) (by omega)
   ·have hkj:t.ks[j]? =some t.ks[j]:=zah hj
    have hc:=hk j (zba.2 hj) _ hkj E
    rw[zaz hj]
    simp only[Tm.anyK]
    show _=some (bl (!(Tm.any (qd8 ar) t.ks[j] (lj j)||_)),s)
    simp -implicitDefEqProofs only[Tm.ia_kid hj,Tm.ld_kid _ _ hkj,of_lt.2 hj,hc,qaN (show j<9223372036854775807 by omega),qbj,qad,qao,qaw,decide_true,qaa,cond_true,zab,zaa,qab,qam,qbq]
    cases Tm.any (qd8 ar) t.ks[j] (lj j)
    ·simp only[zal,zak,cond_false,za6];exact ih
    ·rfl
   ·have h3:¬(Int.ofNat t.ks.length<Int.ofNat t.ks.length):=fun h=>zaX _ (of_lt.1 h)
    rw[List.drop_of_length_le (zan _)]
    simp -implicitDefEqProofs only[h3,Tm.anyK,qbj,qad,qao,qaw,decide_false,zal,qaa,cond_false,zab,zaa,qbq]
  unfold s182 s182_1 qd8
  unfold qd8 at hloop
  generalize s182_0 (qag CP N E) N=G at hloop⊢
  by_cases k2:t.k=2
  ·simp -implicitDefEqProofs only[k2,zbl,qah,qbc,qcL,qad,qaf,qbl,qa7,zaj,decide_true,decide_false,zak,qaa,cond_true,cond_false,qaj,zab,zaa]
  ·by_cases k12:t.k=12
   ·simp -implicitDefEqProofs only[k12,zbl,Bool.or_true,qah,qbc,qcL,qad,qaf,qbl,qa7,zaj,decide_true,decide_false,zak,qaa,cond_true,cond_false,qaj,zab,zaa]
   ·by_cases i1:t.i<1
    ·have i2:¬(0<t.i):=by omega
     simp -implicitDefEqProofs only[k2,k12,i1,i2,hloop,za6,zav,qah,qbc,qcL,qad,qaf,qbl,qa7,decide_true,decide_false,zak,qaa,cond_true,cond_false,qaj,zab,zaa]
    ·have i2:0<t.i:=by omega
     by_cases i3:ar<t.i
     ·simp -implicitDefEqProofs only[k2,k12,i1,i2,i3,hloop,za6,zaT,qah,qbc,qcL,qad,qaf,qbl,qa7,decide_true,decide_false,zak,zal,qaa,cond_true,cond_false,qaj,zab,zaa]
     ·simp -implicitDefEqProofs only[k2,k12,i1,i2,i3,hloop,za6,zay,zbl,qah,qbc,qcL,qad,qaf,qbl,qa7,decide_true,decide_false,zak,zal,qaa,cond_true,cond_false,qaj,zab,zaa]
def oc (t:Tm)(v:zA):List zA:=[u8 t.k,i64 t.n,i64 t.m,i64 t.i,v]
theorem oc4 (t:Tm)(v:zA):ldL (oc t v) 4 none=some v:=rfl
theorem oco (t:Tm)(v w:zA):over (oc t v) 4 [w]=some (oc t w):=rfl
theorem ocl (t:Tm)(v:zA):ldL (oc t v) 0 (some 5)=some (.agg (oc t v)):=rfl
theorem occ (t:Tm)(v:zA):zA.cells (some 5) (.agg (oc t v))=some (oc t v):=rfl
theorem ocz (t:Tm)(v a b c d e:zA):over [a,b,c,d,e] 0 (oc t v)=some (oc t v):=rfl
theorem qhG (f:Nat->List zP)(k j:Nat):zA.cells none (qb0 f k j)=some [qb0 f k j]:=by cases j<;>rfl
theorem qgI (t:Tm)(ks:List Tm)(k:Nat)(hl:t.ks.length=ks.length)(ht:t.ks=ks):qaD (.agg (oc t (qb0 (fun j=>Tm.cellsL (ks.take j)) k ks.length)))=t.v:=by
 have h:=qcV (fun j=>Tm.cellsL (ks.take j)) k ks.length rfl
 simp only[List.take_length] at h
 rw[Tm.v_eq,ht,<-h]
 rfl
end Go.AI.Tryz
namespace Go.AI.Tryz
theorem qqG (g:Tm->Int->Tm)(lab:Bool)(l:Int):∀(ks:List Tm) (j i:Nat),(Tm.chgK g lab l j ks)[i]? =(ks[i]?).map fun u=>u.chg g (if lab&&decide (j+i=0) then l+1 else l)
 |[],j,i=>by simp[Tm.chgK]
 |u::r,j,0=>by simp[Tm.chgK]
 |u::r,j,i+1=>by
  simp only[Tm.chgK,zaO]
  rw[qqG g lab l r (j+1) i,show j+1+i=j+(i+1) by omega]
theorem tc1 (t:Tm)(v:Int):over t.c 1 [i64 v]=some (Tm.mk t.k v t.m t.i t.ks).c:=rfl
theorem tc4 (t:Tm)(v:zA):over t.c 4 [v]=some (oc t v):=rfl
theorem cn0:zA.cells none (.sl 0 [] .full)=some [.sl 0 [] .full]:=rfl
theorem cni (a:Int):zA.cells none (i64 a)=some [i64 a]:=rfl
theorem qqH:∀(d:Nat) (t:Tm) (l:Int),t.size<=d->t.Ok->0<=l->l+t.size<=1000000->PC CP 181 [t.v,i64 l] (t.chg qcM l).v
 |0,t,_,h,_,_,_=>by have:=t.size_pos;omega
 |d+1,t,l,hd,ok,h0,hl=>by
  have hlt:∀u∈t.ks,u.size<t.size:=fun u hu=>qa5 hu
  have hkl:t.ks.length<=1000000:=by
   have:=Tm.len_le_size t.ks
   have:=Tm.size_ks t
   omega
  let lj:Nat->Int:=fun j=>if decide (t.k=11)&&decide (0+j=0) then l+1 else l
  let ks:=Tm.chgK qcM (decide (t.k=11)) l 0 t.ks
  have hlen:ks.length=t.ks.length:=qgH _ _ _ _ _
  have hkj:∀j,∀hj:j<t.ks.length,ks[j]'(by omega)=t.ks[j].chg qcM (lj j):=fun j hj=>by
   have:=qqG qcM (decide (t.k=11)) l t.ks 0 j
   rw[zah hj,zah (show j<ks.length by omega)] at this
   exact Option.some.inj this
  have hkids:Ev fun N=>∀p∈(List.range t.ks.length),∀u,t.ks[p]? =some u->∀E s,cl (qag CP N E) 181 [u.v,i64 (lj p)] s=some ((u.chg qcM (lj p)).v,s):=
   Ev.all _ fun p hp=>by
    have hpl:=zba.1 hp
    have hm:=za4 hpl
    have:=hlt _ hm
    have hlj:lj p=l\/lj p=l+1:=by simp only[lj];split<;>simp
    exact(qqH d t.ks[p] (lj p) (by omega) (ok.kids _ hm) (by omega) (by omega)).mono fun N h u hu=>by
     rw[zah hpl] at hu
     cases hu
     exact h
  let f:Nat->List zP:=fun j=>Tm.cellsL (ks.take j)
  refine PC.of2 (cf:=cf181) (np:=2) (args':=[t.v,i64 l]) (by kernel_rfl) (by kernel_rfl) rfl (by simp only[zap,qak];rfl) (by simp only[zam,qai];rfl) (fun lo=>qaM lo _)
   ((hkids.and (Ev.ge (t.ks.length+1))).mono fun N ⟨hk,hN⟩ E s=>⟨.agg (oc (qcM t l) (qb0 f s.ntok ks.length)),qc6 s 5 ks.length,(s181_eq _ _ _ _ _).trans ?_,?_⟩)
  ·have hloop:∀t':Tm,s181_2 (qag CP N E) N (i64 l) (i64 0) t.c [u8 0,i64 0,i64 0,i64 0,.sl 0 [] .full] (oc t' (.sl 0 [] .full)) s=some (.agg (oc t' (qb0 f s.ntok ks.length)),qc6 s 5 ks.length):=fun t'=>by
    unfold s181_2
    refine qck _ _ t.ks.length (fun j (L:zA->List zA->List zA->List zA->ASt->Res)=>L (i64 (.ofNat j)) t.c [u8 0,i64 0,i64 0,i64 0,.sl 0 [] .full] (oc t' (qb0 f s.ntok j)) (qc6 s 5 j)) (fun _=>some (.agg (oc t' (qb0 f s.ntok ks.length)),qc6 s 5 ks.length)) (fun j L hj ih=>?_) (fun L=>?_) N 0 (zaY _) (by omega)
    ·have hkj':t.ks[j]? =some t.ks[j]:=zah hj
     have hc:=hk j (zba.2 hj) _ hkj' E
     have hw:qbb .i64 (l+1)=l+1:=qbu (by omega) (by omega)
     have hap:=qeV (qag CP N E) (sz:=5) (b:=56) (f:=f) (y:=.sl 1 (ks[j]'(by omega)).cells .full) s j rfl (Tm.len_cells _) (by omega) (qbL (by omega))
     rw[hkj j hj] at hap
     have fin:∀x1,x1=i64 (lj j)->s181_0 (qag CP N E) N (oc t' (qb0 f s.ntok j)) t.c (i64 (.ofNat j)) (qc6 s 5 j) L [u8 0,i64 0,i64 0,i64 0,.sl 0 [] .full] x1=some (.agg (oc t' (qb0 f s.ntok ks.length)),qc6 s 5 ks.length):=by
      rintro _ rfl
      unfold s181_0
      simp -implicitDefEqProofs only[oc4,Tm.ia_kid hj,Tm.ld_kid _ _ hkj',hc,qwR _ [.int .u8 0,.int .i64 0,.int .i64 0,.int .i64 0,.sl 0 []] rfl,hap,qhG,oco,qaN (show j<9223372036854775807 by omega),qbj,qad,qaw,zab,zaa,qab]
      exact ih
     unfold s181_1
     generalize s181_0 (qag CP N E) N=G at fin⊢
     have hlt':=of_lt.2 hj
     by_cases k11:t.k=11
     ·by_cases j0:j=0
      ·have e:lj j=l+1:=by simp only[lj,k11,j0,zaK,decide_true,zat,if_true]
       have:=fin _ rfl
       rw[e] at this
       have e0:decide (Int.ofNat j=0)=true:=decide_eq_true (by rw[j0];rfl)
       simp -implicitDefEqProofs only[k11,e0,hlt',hw,this,qbc,qbj,qad,qaf,qao,qaw,decide_true,qaa,cond_true,qaj,zab,zaa,qbq]
      ·have e:lj j=l:=by simp only[lj,zaK,j0,decide_false,zaT,zai,if_false]
       have:=fin _ rfl
       rw[e] at this
       simp -implicitDefEqProofs only[k11,j0,e0j,hlt',this,qbc,qbj,qad,qaf,qao,qaw,decide_true,decide_false,qaa,cond_true,cond_false,qaj,zab,zaa,qbq]
     ·have e:lj j=l:=by simp only[lj,k11,decide_false,zav,zai,if_false]
      have:=fin _ rfl
      rw[e] at this
      simp -implicitDefEqProofs only[k11,hlt',this,qbc,qbj,qad,qaf,qao,qaw,decide_true,decide_false,qaa,cond_true,cond_false,qaj,zab,zaa,qbq]
    ·have h3:¬(Int.ofNat t.ks.length<Int.ofNat t.ks.length):=fun h=>zaX _ (of_lt.1 h)
     generalize s181_1 (qag CP N E) N=G
     simp -implicitDefEqProofs only[h3,ocl,occ,ocz,hlen,qbc,qbj,qad,qaf,qao,decide_false,qaa,cond_false,qaj,zab,zaa,qbq]
   have hfld:=qcg ok
   unfold s181 s181_4 s181_3
   generalize s181_2 (qag CP N E) N=G at hloop⊢
   by_cases k12:t.k=12
   ·by_cases hn:l<t.n
    ·have e:qcM t l=.mk t.k (t.n-1) t.m t.i t.ks:=if_pos ⟨k12,hn⟩
     have hw:qbb .i64 (t.n-1)=t.n-1:=qbu (by omega) (by omega)
     have:=hloop (.mk t.k (t.n-1) t.m t.i t.ks)
     rw[e]
     simp -implicitDefEqProofs only[k12,hn,hw,cni,tc1,tc4,cn0,qah,qaU,qbc,qb1,qav,qad,qaf,qaG,qa2,decide_true,qaa,cond_true,cond_false,qaj,zab,zaa]
     simp only[k12] at this
     exact this
    ·have e:qcM t l=t:=if_neg (fun q=>hn q.2)
     rw[e]
     simp -implicitDefEqProofs only[k12,hn,tc4,cn0,hloop t,qah,qaU,qbc,qb1,qav,qad,qaf,qaG,decide_true,decide_false,qaa,cond_true,cond_false,qaj,zab,zaa]
   ·have e:qcM t l=t:=if_neg (fun q=>k12 q.1)
    rw[e]
    simp -implicitDefEqProofs only[k12,tc4,cn0,hloop t,qah,qaU,qbc,qb1,qav,qad,qaf,qaG,decide_false,qaa,cond_false,qaj,zab,zaa]
  ·rw[Tm.chg_eq]
   have:=qgI (.mk (qcM t l).k (qcM t l).n (qcM t l).m (qcM t l).i ks) ks s.ntok rfl rfl
   exact this
end Go.AI.Tryz
namespace Go.AI.Tryz
theorem qsR (id:Int)(val:Tm):∀(ks:List Tm) (i:Nat),(woL id val ks)[i]? =(ks[i]?).map (woF id val)
 |[],i=>by simp[woL]
 |u::r,0=>by simp[woL]
 |u::r,i+1=>by simp only[woL,zaO];exact qsR id val r i
theorem tc3 (t:Tm)(v:Int):over t.c 3 [i64 v]=some (Tm.mk t.k t.n t.m v t.ks).c:=rfl
theorem qsS (id:Int)(h0:0<=id)(val:Tm):∀(d:Nat) (t:Tm) (X:Sc),t.size<=d->Nd X t->PC CP 202 [t.v,i64 id,val.v] (woF id val t).v
 |0,t,_,h,_=>by have:=t.size_pos;omega
 |d+1,t,X,hd,hn=>by
  have hlt:∀u∈t.ks,u.size<t.size:=fun u hu=>qa5 hu
  have hsz:=hn.size
  have hkl:t.ks.length<=1000000:=by
   have:=Tm.len_le_size t.ks
   have:=Tm.size_ks t
   omega
  let ks:=woL id val t.ks
  have hlen:ks.length=t.ks.length:=qma _ _ _
  have hkj:∀j,∀hj:j<t.ks.length,ks[j]'(by omega)=woF id val t.ks[j]:=fun j hj=>by
   have:=qsR id val t.ks j
   rw[zah hj,zah (show j<ks.length by omega)] at this
   exact Option.some.inj this
  have hkids:Ev fun N=>∀p∈(List.range t.ks.length),∀u,t.ks[p]? =some u->∀E s,cl (qag CP N E) 202 [u.v,i64 id,val.v] s=some ((woF id val u).v,s):=
   Ev.all _ fun p hp=>by
    have hpl:=zba.1 hp
    have:=hlt _ (za4 hpl)
    exact(qsS id h0 val d t.ks[p] (X.kid t p) (by omega) (hn.kid (zah hpl))).mono fun N h u hu=>by
     rw[zah hpl] at hu
     cases hu
     exact h
  let f:Nat->List zP:=fun j=>Tm.cellsL (ks.take j)
  refine PC.of2 (cf:=cf202) (np:=3) (args':=[t.v,i64 id,val.v]) (by kernel_rfl) (by kernel_rfl) rfl (by simp only[zap,qak];rfl) (by simp only[zam,qai];rfl) (fun lo=>qaM lo _)
   ((hkids.and (Ev.ge (t.ks.length+1))).mono fun N ⟨hk,hN⟩ E s=>?_)
  suffices ∃r s',s202 (qag CP N E) N t.v (i64 id) val.v s=some (r,s')/\qaD r=(woF id val t).v by
   obtain⟨r,s',h1,h2⟩:=this
   exact⟨r,s',(s202_eq _ _ _ _ _ _).trans h1,h2⟩
  have hloop:∀t':Tm,s202_0 (qag CP N E) N (i64 id) (i64 0) t.c val.c [u8 0,i64 0,i64 0,i64 0,.sl 0 [] .full] (oc t' (.sl 0 [] .full)) s=some (.agg (oc t' (qb0 f s.ntok ks.length)),qc6 s 5 ks.length):=fun t'=>by
   unfold s202_0
   refine qck _ _ t.ks.length (fun j (L:zA->List zA->List zA->List zA->List zA->ASt->Res)=>L (i64 (.ofNat j)) t.c val.c [u8 0,i64 0,i64 0,i64 0,.sl 0 [] .full] (oc t' (qb0 f s.ntok j)) (qc6 s 5 j)) (fun _=>some (.agg (oc t' (qb0 f s.ntok ks.length)),qc6 s 5 ks.length)) (fun j L hj ih=>?_) (fun L=>?_) N 0 (zaY _) (by omega)
   ·have hkj':t.ks[j]? =some t.ks[j]:=zah hj
    have hc:=hk j (zba.2 hj) _ hkj' E
    have hap:=qeV (qag CP N E) (sz:=5) (b:=56) (f:=f) (y:=.sl 1 (ks[j]'(by omega)).cells .full) s j rfl (Tm.len_cells _) (by omega) (qbL (by omega))
    rw[hkj j hj] at hap
    simp -implicitDefEqProofs only[oc4,of_lt.2 hj,Tm.ia_kid hj,Tm.ld_kid _ _ hkj',qb3,hc,qwR _ [.int .u8 0,.int .i64 0,.int .i64 0,.int .i64 0,.sl 0 []] rfl,hap,qhG,oco,qaN (show j<9223372036854775807 by omega),qbj,qad,qao,qaw,decide_true,qaa,cond_true,zab,zaa,qab,qbq]
    exact ih
   ·have h3:¬(Int.ofNat t.ks.length<Int.ofNat t.ks.length):=fun h=>zaX _ (of_lt.1 h)
    simp -implicitDefEqProofs only[h3,ocl,occ,ocz,hlen,qaU,qbj,qad,qao,qaw,decide_false,qaa,cond_false,zab,zaa,qbq]
  have hfld:=qcg hn.ok
  have helse:∀i':Int,i'=(if id<t.i then t.i-1 else t.i)->s202_2 (qag CP N E) N (i64 id) t.c val.c [u8 0,i64 0,i64 0,i64 0,.sl 0 [] .full] [] s=some (.agg (oc (.mk t.k t.n t.m i' t.ks) (qb0 f s.ntok ks.length)),qc6 s 5 ks.length)/\qaD (.agg (oc (.mk t.k t.n t.m i' t.ks) (qb0 f s.ntok ks.length)))=(Tm.mk t.k t.n t.m i' ks).v:=fun i' hi=>by
   refine⟨?_,qgI (.mk t.k t.n t.m i' ks) ks s.ntok rfl rfl⟩
   have hl:=hloop (.mk t.k t.n t.m i' t.ks)
   unfold s202_2 s202_1
   generalize s202_0 (qag CP N E) N=G at hl⊢
   by_cases hid:id<t.i
   ·rw[if_pos hid] at hi
    subst hi
    have hw:qbb .i64 (t.i-1)=t.i-1:=qbu (by omega) (by omega)
    simp -implicitDefEqProofs only[qb3,hid,hw,cni,tc3,tc4,cn0,hl,qah,qcL,qav,qad,qaG,qa2,decide_true,qaa,cond_true,qaj,zab,zaa]
   ·rw[if_neg hid] at hi
    subst hi
    rw[qsG] at hl⊢
    simp -implicitDefEqProofs only[qb3,hid,tc4,cn0,hl,qah,qcL,qav,qad,qaG,decide_false,qaa,cond_false,qaj,zab,zaa]
  rw[qtT]
  unfold s202
  generalize s202_2 (qag CP N E) N=G at helse⊢
  by_cases hi:t.i=id
  ·rw[if_pos hi]
   by_cases k3:t.k=3
   ·rw[if_pos k3]
    refine⟨val.v,s,?_,qai _⟩
    simp -implicitDefEqProofs only[hi,k3,qb3,qah,qbc,qcL,qbj,qav,qad,qaf,zaj,decide_true,decide_false,qaa,cond_true,cond_false,qaj,zab,zaa]
   ·rw[if_neg k3]
    by_cases k4:t.k=4
    ·rw[if_pos k4]
     cases hn.sh with
     |put i u=>
      obtain⟨i0,l0⟩:=qb8 (n:=N) (E:=E) (l:=[u]) (u:=u) rfl
      have hc:=hk 0 (by simp[Tm.ks]) u rfl E
      have hb1:bd [u8 0,i64 0,i64 0,i64 0,.sl 0 [] .full] [(0,none,.c (u8 6)),(1,none,.c (i64 1)),(4,none,.c (.sl 1 (Tm.cellsL [woF id val u]) .full))]=some (.agg [u8 6,i64 1,i64 0,i64 0,.sl 1 (Tm.cellsL [woF id val u]) .full]):=rfl
      refine⟨.agg [u8 6,i64 1,i64 0,i64 0,.sl 1 (Tm.cellsL [woF id val u]) .full],s,?_,?_⟩
      ·have hi':i=id:=hi
       simp -implicitDefEqProofs only[hi',i0,l0,hc,qb3,qpN,hb1,z5c,z5o,z5l,qah,qbc,qcL,qbj,qav,qad,qaf,zaj,decide_true,decide_false,qaa,cond_true,cond_false,qaj,zab,zaa,qab,Tm.k_mk,Tm.i_mk,Tm.ks_mk]
      ·show _=(Tm.az 1 (woF id val u)).v
       rw[Tm.v_eq]
       rfl
     |_=>simp[Tm.k] at k4
    ·rw[if_neg k4]
     by_cases k18:t.k=18
     ·rw[if_pos k18]
      cases hn.sh with
      |ntc n i u=>
       obtain⟨i0,l0⟩:=qb8 (n:=N) (E:=E) (l:=[u]) (u:=u) rfl
       have hc:=hk 0 (by simp[Tm.ks]) u rfl E
       refine⟨(woF id val u).v,s,?_,qai _⟩
       have hi':i=id:=hi
       simp -implicitDefEqProofs only[hi',i0,l0,hc,qb3,qah,qbc,qcL,qbj,qav,qad,qaf,zaj,decide_true,decide_false,qaa,cond_true,cond_false,qaj,zab,zaa,qab,Tm.k_mk,Tm.i_mk,Tm.ks_mk]
      |_=>simp[Tm.k] at k18
     ·rw[if_neg k18]
      obtain⟨h1,h2⟩:=helse t.i (by rw[if_neg (by omega)])
      refine⟨_,qc6 s 5 ks.length,?_,h2⟩
      simp -implicitDefEqProofs only[hi,k3,k4,k18,h1,qah,qaU,qbc,qcL,qbj,qav,qad,qaf,decide_true,decide_false,qaa,cond_true,cond_false,qaj,zab,zaa]
  ·rw[if_neg hi]
   obtain⟨h1,h2⟩:=helse _ rfl
   refine⟨_,qc6 s 5 ks.length,?_,h2⟩
   simp -implicitDefEqProofs only[hi,h1,qah,qaU,qbc,qcL,qbj,qav,qad,qaf,decide_false,qaa,cond_false,qaj,zab,zaa]
end Go.AI.Tryz
namespace Go.AI.Tryz
theorem qeb (l o:Nat)(k:zA->Res):qll (.ptr l o) k=k (.ptr l o):=rfl
structure Cm (b:Bool)(n:Nat)(y z:Int):Prop where
 ge:y<=z
 le:z<=y+n
 pos:0<z↔0<y\/b=true
theorem Cm.trans {b b':Bool}{n n':Nat}{y z w:Int}(h:Cm b n y z)(k:Cm b' n' z w):Cm (b||b') (n+n') y w:=by
 have h1:=h.ge
 have h2:=h.le
 have k1:=k.ge
 have k2:=k.le
 refine⟨by omega,by omega,?_⟩
 rw[k.pos,h.pos,za5,or_assoc]
theorem Cm.refl (n:Nat)(y:Int):Cm false n y y:=⟨Int.le_refl _,by omega,by simp⟩
theorem Cm.one {y:Int}(h:0<=y):Cm true 1 y (y+1):=⟨by omega,by omega,by simp;omega⟩
theorem qlf {is:Tm->Int->Bool}(h:∀t l l',is t l=is t l'):∀(d:Nat) (t:Tm) (l l':Int),t.size<=d->t.any is l=t.any is l'
 |0,t,_,_,hd=>by have:=t.size_pos;omega
 |d+1,t,l,l',hd=>by
  have hlt:∀u∈t.ks,u.size<t.size:=fun u hu=>qa5 hu
  have hk:∀(ks:List Tm) (j:Nat),(∀u∈ks,u.size<=d)->Tm.anyK is (decide (t.k=11)) l j ks=Tm.anyK is (decide (t.k=11)) l' j ks:=by
   intro ks
   induction ks with
   |nil=>intro j _;rfl
   |cons u r ih=>
    intro j hu
    simp only[Tm.anyK]
    rw[qlf h d u _ (if decide (t.k=11)&&decide (j=0) then l'+1 else l') (hu u (zau ..)),ih (j+1) fun v hv=>hu v (zax _ hv)]
  rw[Tm.any_eq,Tm.any_eq,h t l l',hk t.ks 0 fun u hu=>by have:=hlt u hu;omega]
theorem qnw {is:Tm->Int->Bool}(h:∀t l l',is t l=is t l')(lab:Bool)(l:Int):∀(ks:List Tm) (j:Nat),Tm.anyK is lab l j ks=ks.any fun u=>u.any is 0
 |[],_=>rfl
 |u::r,j=>by
  simp only[Tm.anyK,List.any_cons]
  rw[qnw h lab l r (j+1),qlf h u.size u _ 0 (zan _)]
theorem qmc {is:Tm->Int->Bool}(h:∀t l l',is t l=is t l')(t:Tm):t.any is 0=(is t 0||t.ks.any fun u=>u.any is 0):=by
 rw[Tm.any_eq,qnw h]
def qr8 (id:Int)(ba bp bh:Bool)(sz:Nat)(l:Nat)(H:qaR)(a p h:Int)(s s':ASt):Prop:=
 ∃a' p' h':Int,s'={s with heap:=(l,.cells [i64 a',i64 p',i64 h'])::H}/\Cm ba sz a a'/\Cm bp sz p p'/\Cm bh sz h h'
theorem qnx (id:Int):∀d,d<=1000000->Ev fun n=>∀t:Tm,t.size<=d->∀E s l H (a p h:Int),s.heap=(l,.cells [i64 a,i64 p,i64 h])::H->0<=a/\a+t.size<=1000000000->0<=p/\p+t.size<=1000000000->0<=h/\h+t.size<=1000000000->
  ∃s',cl (qag CP n E) 201 [.ptr l 0,t.v,i64 id] s=some (.tuple [],s')/\qr8 id (t.any (isA id) 0) (t.any (isP id) 0) (t.any (isH id) 0) t.size l H a p h s s'
 |0,_=>Ev.of fun n t h=>by have:=t.size_pos;omega
 |d+1,hd=>by
  refine Ev.succ (((qnx id d (by omega)).and (Ev.ge (d+3))).mono fun n ⟨ih,hn⟩ t hsz E s l H a p h hs ba bp bh=>?_)
  suffices ∃s',s201 (qag CP n E) n (.ptr l 0) t.v (i64 id) s=some (.tuple [],s')/\qr8 id (t.any (isA id) 0) (t.any (isP id) 0) (t.any (isH id) 0) t.size l H a p h s s' by
   obtain⟨s',e1,e2⟩:=this
   refine⟨s',?_,e2⟩
   rw[qb4]
   exact qfy (cf:=cf201) (np:=3) (args':=[.ptr l 0,t.v,i64 id]) (v:=.tuple []) (by kernel_rfl) (by kernel_rfl) rfl (by simp only[zap,qak];rfl) (by simp only[zam,qai];rfl) ((s201_eq _ _ _ _ _ _).trans e1) rfl rfl
  have hlen:=Tm.len_le_size t.ks
  have hts:=Tm.size_ks t
  have key:∀(r done:List Tm) (j k:Nat) (a p h:Int) (s:ASt),t.ks=done++r->done.length=j->r.length<k->s.heap=(l,.cells [i64 a,i64 p,i64 h])::H->0<=a/\a+Tm.sizeL r<=1000000000->0<=p/\p+Tm.sizeL r<=1000000000->0<=h/\h+Tm.sizeL r<=1000000000->
    ∃s',lp (fun _ _=>none) (fun h10 x8 s9=>(ldL t.c 4 none).bind fun x11=>(ln false x11).bind fun x12=>(bn .lss x8 x12).bind fun x13=>qae x13 ((ldL t.c 4 none).bind fun x14=>qac (iaV 5 x14 x8) fun q15 o16=>(ldH (qag CP n E) s9 (.elem q15 o16) (some 5)).bind fun x17=>
     qac (cl (qag CP n E) 201 [.ptr l 0,x17,i64 id] s9) fun x18 s19=>(bn .add x8 (i64 1)).bind fun x20=>h10 x20 s19) (some (.tuple [],s9))) k (i64 (.ofNat j)) s=some (.tuple [],s')/\
     qr8 id (r.any fun u=>u.any (isA id) 0) (r.any fun u=>u.any (isP id) 0) (r.any fun u=>u.any (isH id) 0) (Tm.sizeL r) l H a p h s s':=by
   intro r
   induction r with
   |nil=>
    intro done j k a p h s h1 h2 hk hs _ _ _
    obtain⟨k,rfl⟩:∃m,k=m+1:=⟨k-1,by simp only[zaB] at hk;omega⟩
    have hj:j=t.ks.length:=by rw[h1];simp[h2]
    have hnl:¬(Int.ofNat j<Int.ofNat t.ks.length):=fun h=>by have:=of_lt.1 h;omega
    rw[qa6]
    refine⟨s,?_,a,p,h,by rw[<-hs],Cm.refl _ _,Cm.refl _ _,Cm.refl _ _⟩
    simp -implicitDefEqProofs only[hnl,qbj,qad,qao,qaw,decide_false,qaa,cond_false,zab,zaa,qbq]
   |cons u r ih2=>
    intro done j k a p h s h1 h2 hk hs b1 b2 b3
    obtain⟨k,rfl⟩:∃m,k=m+1:=⟨k-1,by simp only[zar] at hk;omega⟩
    simp only[zar,Tm.sizeL] at hk b1 b2 b3
    have hu:t.ks[j]? =some u:=by rw[h1,zaC (by omega),h2];simp
    have hjl:j<t.ks.length:=(zao.1 hu).1
    have hus:u.size<t.size:=qa5 (zaM hu)
    obtain⟨s1,c1,a',p',h',e1,m1,m2,m3⟩:=ih u (by omega) E s l H a p h hs (by omega) (by omega) (by omega)
    have g1:=m1.le
    have g2:=m2.le
    have g3:=m3.le
    have g4:=m1.ge
    have g5:=m2.ge
    have g6:=m3.ge
    obtain⟨s2,c2,a2,p2,h2',e2,n1,n2,n3⟩:=ih2 (done++[u]) (j+1) k a' p' h' s1 (by rw[h1];simp) (by simp[h2]) (by omega) (by rw[e1]) (by omega) (by omega) (by omega)
    refine⟨s2,?_,a2,p2,h2',by rw[e2,e1],?_,?_,?_⟩
    ·rw[qa6]
     generalize lp _ _ k=L at c2⊢
     simp -implicitDefEqProofs only[of_lt.2 hjl,Tm.ia_kid hjl,Tm.ld_kid _ _ hu,c1,qaN (show j<9223372036854775807 by omega),qbj,qad,qao,qaw,decide_true,qaa,cond_true,zab,zaa,qab,qbq]
     exact c2
    ·simp only[List.any_cons,Tm.sizeL];exact m1.trans n1
    ·simp only[List.any_cons,Tm.sizeL];exact m2.trans n2
    ·simp only[List.any_cons,Tm.sizeL];exact m3.trans n3
  have cA:∀t l l',isA id t l=isA id t l':=fun _ _ _=>rfl
  have cP:∀t l l',isP id t l=isP id t l':=fun _ _ _=>rfl
  have cH:∀t l l',isH id t l=isH id t l':=fun _ _ _=>rfl
  rw[qmc cA,qmc cP,qmc cH,hts]
  have fin:∀(a1 p1 h1:Int) (s1:ASt),s1={s with heap:=(l,.cells [i64 a1,i64 p1,i64 h1])::H}->Cm (isA id t 0) 1 a a1->Cm (isP id t 0) 1 p p1->Cm (isH id t 0) 1 h h1->
    ∃s',s201_0 (qag CP n E) n t.c (.ptr l 0) (i64 id) (i64 0) s1=some (.tuple [],s')/\qr8 id (isA id t 0||t.ks.any fun u=>u.any (isA id) 0) (isP id t 0||t.ks.any fun u=>u.any (isP id) 0) (isH id t 0||t.ks.any fun u=>u.any (isH id) 0) (1+Tm.sizeL t.ks) l H a p h s s':=by
   intro a1 p1 h1 s1 hs1 m1 m2 m3
   have g1:=m1.le
   have g2:=m2.le
   have g3:=m3.le
   have g4:=m1.ge
   have g5:=m2.ge
   have g6:=m3.ge
   obtain⟨s',e1,a',p',h',e2,n1,n2,n3⟩:=key t.ks [] 0 n a1 p1 h1 s1 rfl rfl (by omega) (by rw[hs1]) (by omega) (by omega) (by omega)
   exact⟨s',e1,a',p',h',by rw[e2,hs1],m1.trans n1,m2.trans n2,m3.trans n3⟩
  have same:s={s with heap:=(l,.cells [i64 a,i64 p,i64 h])::H}:=by rw[<-hs]
  have hc:qar (qag CP n E).E s l=some [i64 a,i64 p,i64 h]:=qaS hs
  have wa:qbb .i64 (a+1)=a+1:=qbu (by omega) (by omega)
  have wp:qbb .i64 (p+1)=p+1:=qbu (by omega) (by omega)
  have wh:qbb .i64 (h+1)=h+1:=qbu (by omega) (by omega)
  have q0:ldL [i64 a,i64 p,i64 h] 0 none=some (i64 a):=rfl
  have q1:ldL [i64 a,i64 p,i64 h] 1 none=some (i64 p):=rfl
  have q2:ldL [i64 a,i64 p,i64 h] 2 none=some (i64 h):=rfl
  have st0:=qqT (o:=0) (cs:=[i64 (a+1)]) (new:=[i64 (a+1),i64 p,i64 h]) hs rfl rfl
  have st1:=qqT (o:=1) (cs:=[i64 (p+1)]) (new:=[i64 a,i64 (p+1),i64 h]) hs rfl rfl
  have st2:=qqT (o:=2) (cs:=[i64 (h+1)]) (new:=[i64 a,i64 p,i64 (h+1)]) hs rfl rfl
  unfold s201 s201_5 s201_4 s201_3 s201_2 s201_1
  generalize s201_0 (qag CP n E) n=G at fin⊢
  have fF:∀{b:Bool} {z:Int},b=false->Cm b 1 z z:=fun h=>h▸Cm.refl _ _
  have fT:∀{b:Bool} {z:Int},0<=z->b=true->Cm b 1 z (z+1):=fun h0 h=>h▸Cm.one h0
  by_cases hi:t.i=id
  ·by_cases k3:t.k=3
   ·obtain⟨s',e1,e2⟩:=fin (a+1) p h _ rfl (fT ba.1 (by simp[isA,hi,k3])) (fF (by simp[isP,k3])) (fF (by simp[isH,k3]))
    refine⟨s',?_,e2⟩
    simp -implicitDefEqProofs only[hi,k3,qeb,zaK,zbk,ldP hc,q0,wa,cni,st0,e1,qah,qbc,qcL,qad,qaf,qaw,zaj,decide_true,decide_false,qaa,cond_true,cond_false,qaj,zab,zaa,qbD]
   ·by_cases k4:t.k=4
    ·obtain⟨s',e1,e2⟩:=fin a (p+1) h _ rfl (fF (by simp[isA,k3])) (fT bp.1 (by simp[isP,hi,k4])) (fF (by simp[isH,k4]))
     refine⟨s',?_,e2⟩
     simp -implicitDefEqProofs only[hi,k4,qeb,zaK,zbk,ldP hc,q1,wp,cni,st1,e1,qah,qbc,qcL,qad,qaf,qaw,zaj,decide_true,decide_false,qaa,cond_true,cond_false,qaj,zab,zaa,qbD]
    ·by_cases k18:t.k=18
     ·obtain⟨s',e1,e2⟩:=fin a (p+1) h _ rfl (fF (by simp[isA,k3])) (fT bp.1 (by simp[isP,hi,k18])) (fF (by simp[isH,k18]))
      refine⟨s',?_,e2⟩
      simp -implicitDefEqProofs only[hi,k18,qeb,zaK,zbk,ldP hc,q1,wp,cni,st1,e1,qah,qbc,qcL,qad,qaf,qaw,zaj,decide_true,decide_false,qaa,cond_true,cond_false,qaj,zab,zaa,qbD]
     ·by_cases k16:t.k=16
      ·obtain⟨s',e1,e2⟩:=fin a p (h+1) _ rfl (fF (by simp[isA,k3])) (fF (by simp[isP,k4,k18])) (fT bh.1 (by simp[isH,hi,k16]))
       refine⟨s',?_,e2⟩
       simp -implicitDefEqProofs only[hi,k16,qeb,zaK,zbk,ldP hc,q2,wh,cni,st2,e1,qah,qbc,qcL,qad,qaf,qaw,zaj,decide_true,decide_false,qaa,cond_true,cond_false,qaj,zab,zaa,qbD]
      ·obtain⟨s',e1,e2⟩:=fin a p h s same (fF (by simp[isA,k3])) (fF (by simp[isP,k4,k18])) (fF (by simp[isH,k16]))
       refine⟨s',?_,e2⟩
       simp -implicitDefEqProofs only[hi,k3,k4,k18,k16,e1,qah,qbc,qcL,qad,qaf,decide_true,decide_false,qaa,cond_true,cond_false,qaj,zab,zaa]
  ·obtain⟨s',e1,e2⟩:=fin a p h s same (fF (by simp[isA,hi])) (fF (by simp[isP,hi])) (fF (by simp[isH,hi]))
   refine⟨s',?_,e2⟩
   simp -implicitDefEqProofs only[hi,e1,qah,qbc,qcL,qad,qaf,decide_false,qaa,cond_false,qaj,zab,zaa]
end Go.AI.Tryz
