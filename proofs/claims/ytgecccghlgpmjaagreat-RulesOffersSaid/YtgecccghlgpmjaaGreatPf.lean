/- Part 6: what the functions of the program compute, function by function. No condition. -/
import Derived.Test.YtgecccghlgpmjaaGreatPe
set_option linter.unusedVariables false
set_option linter.unusedSimpArgs false
open Bool renaming and_eq_true→zag,not_true→zak,not_false→zam,and_self→zat
open Int renaming ofNat_eq_natCast→zaf,reduceEq→zaj
open List renaming getElem?_eq_getElem→zah,map_cons→zal,all_cons→zan,getElem?_eq_some_iff→zap,length_cons→zar,getElem?_cons_zero→zas,mem_cons_self→zav,mem_cons_of_mem→zaw,length_append→zax,drop_eq_getElem_cons→zaz,getElem?_append_right→zaA,length_nil→zaC,mem_cons→zaE,cons_append→zaG,nil_append→zaI,mem_append→zaL,mem_of_getElem?→zaQ,append_assoc→zaR,length_map→zaY,mem_range→za8,append_nil→zbe,map_nil→zbm
open Nat renaming le_refl→zao,zero_add→zaH,lt_irrefl→zaZ,zero_le→za3,beq_refl→za9,le_trans→zbg,add_zero→zbj
open Option renaming bind_some→zaa,map_some→zab,map_eq_some_iff→zad,getD_some→zaB,isSome_none→zaD,getD_none→zaJ,isSome_some→zbf
open Option.some renaming injEq→zac
open Prod.mk renaming injEq→zaq
namespace Go.AI.Tryz
def LG (s:ASt)(tok:Nat)(y:List Rw):Prop:=y≠[]->tok<s.ntok/\qar s.toks tok=some (y.length,2)
structure Vs (s0:ASt)(k0:Nat)(y0:List Rw)(s:ASt)(k:Nat)(y:List Rw):Prop where
 nt:s0.ntok<=s.ntok
 ag:∀t,t<s0.ntok->(y0≠[]->t≠k0)->qar s.toks t=qar s0.toks t
 tk:y≠[]->(y0≠[]/\k=k0)\/s0.ntok<=k
 lg:LG s k y
theorem Vs.refl {s:ASt}{k:Nat}{y:List Rw}(h:LG s k y):Vs s k y s k y:=⟨zao _,fun _ _ _=>rfl,fun h=> .inl ⟨h,rfl⟩,h⟩
theorem Vs.trans {s0 s1 s2:ASt}{k0 k1 k2:Nat}{y0 y1 y2:List Rw}(h:Vs s0 k0 y0 s1 k1 y1)(g:Vs s1 k1 y1 s2 k2 y2):Vs s0 k0 y0 s2 k2 y2:=by
 have h1:=h.nt
 have h2:=g.nt
 refine⟨by omega,fun t ht hn=>?_,fun hy=>?_,g.lg⟩
 ·rw[g.ag t (by omega) fun q=>?_,h.ag t ht hn]
  rcases h.tk q with⟨q1,q2⟩|q1
  ·rw[q2];exact hn q1
  ·omega
 ·rcases g.tk hy with⟨q1,q2⟩|q1
  ·rcases h.tk q1 with⟨q3,q4⟩|q3
   ·exact .inl ⟨q3,by rw[q2,q4]⟩
   ·exact .inr (by omega)
  ·exact .inr (by omega)
theorem Vs.heap {s0 s:ASt}{k0 k:Nat}{y0 y:List Rw}(h:Vs s0 k0 y0 s k y)(H:qaS):Vs s0 k0 y0 {s with heap:=H} k y:=⟨h.nt,h.ag,h.tk,h.lg⟩
theorem qrK (e:Env){y:List Rw}{tok:Nat}{s:ASt}(h:LG s tok y)(p:Rw)(hb:y.length<=100000000):
  ∃tok' s',ap e 2 16 (qeM tok y) (.sl 1 (rwC p) .full) s=some (qeM tok' (y++[p]),s')/\s'.heap=s.heap/\s'.next=s.next/\Vs s tok y s' tok' (y++[p]):=by
 cases y with
 |nil=>
  refine⟨s.ntok,_,qfP e (sz:=2) (b:=16) (new:=rwC p) s rfl rfl (by omega),rfl,rfl,Nat.le_succ _,fun t ht _=>?_,fun _=> .inr (zao _),fun _=>⟨Nat.lt_succ_self _,?_⟩⟩
  ·show qar ((s.ntok,1,2)::s.toks) t=_
   rw[qao,if_neg (by omega)]
  ·show qar ((s.ntok,1,2)::s.toks) s.ntok=_
   rw[qao,if_pos rfl]
   rfl
 |cons a r=>
  obtain⟨hlt,ht⟩:=h (by simp)
  obtain⟨ts,e1,e2⟩:=qmQ e (sz:=2) (b:=16) (n:=r.length+1) (t:=tok) (cs:=qaQ rwC (a::r)) (new:=rwC p) (y:=.sl 1 (rwC p) .full) ht rfl rfl (by simp only[zar] at hb;omega)
  refine⟨tok,{s with toks:=ts},?_,rfl,rfl,zao _,fun t _ hn=>?_,fun _=> .inl ⟨by simp,rfl⟩,fun _=>⟨hlt,?_⟩⟩
  ·have hl:qeM tok (a::r++[p])=.sl (r.length+1+1) (qaQ rwC (a::r)++rwC p) (.own tok):=by
    show zA.sl ((r++[p]).length+1) (qaQ rwC (a::(r++[p]))) (.own tok)=_
    have:=qfw rwC (a::r) p
    rw[zaG] at this
    rw[this,zax]
    rfl
   rw[hl]
   exact e1
  ·show qar ts t=_
   rw[e2,if_neg (hn (by simp))]
  ·show qar ts tok=_
   rw[e2,if_pos rfl]
   simp only[zax,zar,zaC]
abbrev VC (c:Nat)(w:Rw)(dn:Bool)(tok:Nat)(y:List Rw):List zA:=[i64 (.ofNat c),u8 w.1,i64 w.2,bl dn,qeM tok y]
abbrev Zt:List zA:=[u8 0,i64 0,i64 0,i64 0,.sl 0 [] .full]
abbrev qeN (l:List Of):List Rw:=l.map fun o=>(o.1,o.2.1)
def qhB (x:Sc)(t:Tm)(c:Nat)(i:Nat):List Of:=(ruL.drop i).filterMap fun i=>(qbm i x t).map fun u=>(Int.ofNat (i+1),Int.ofNat c,u)
theorem qqp (x:Sc)(t:Tm)(c:Nat):qdq qc2 x t (.ofNat c)=qhB x t c 0:=by
 unfold qdq qhB qc2
 simp only[if_true,List.drop_zero]
theorem qk6 (x:Sc)(t:Tm)(c:Nat){i:Nat}(hi:i<22):qhB x t c i=(match qbm i x t with|some u=>[(Int.ofNat (i+1),Int.ofNat c,u)]|none=>[])++qhB x t c (i+1):=by
 have h:=qjt hi
 obtain⟨hl,he⟩:=zap.1 h
 unfold qhB
 rw[zaz hl,he]
 simp only[List.filterMap_cons]
 cases qbm i x t<;>rfl
theorem qjC (x:Sc)(t:Tm)(c:Nat):qhB x t c 22=[]:=rfl
theorem qnc (x:Sc)(t:Tm)(c i:Nat):(qhB x t c i).length<=22-i:=by
 unfold qhB
 refine zbg (List.length_filterMap_le _ _) ?_
 rw[List.length_drop]
 exact zao _
theorem vc0 (c:Nat)(w:Rw)(d:Bool)(k:Nat)(y:List Rw):ldL (VC c w d k y) 0 none=some (i64 (.ofNat c)):=rfl
theorem vc1 (c:Nat)(w:Rw)(d:Bool)(k:Nat)(y:List Rw):ldL (VC c w d k y) 1 (some 2)=some (rv w):=rfl
theorem vc3 (c:Nat)(w:Rw)(d:Bool)(k:Nat)(y:List Rw):ldL (VC c w d k y) 3 none=some (bl d):=rfl
theorem vc4 (c:Nat)(w:Rw)(d:Bool)(k:Nat)(y:List Rw):ldL (VC c w d k y) 4 none=some (qeM k y):=rfl
theorem qvY (w p:Rw):eqs [1,1] false (rv w) (rv p)=some (bl (decide (w=p))):=by
 rw[qm6]
 congr 1
 obtain⟨a,b⟩:=w
 obtain⟨c,d⟩:=p
 simp only[cond_false,zaq]
 by_cases h1:a=c<;>by_cases h2:b=d<;>simp[h1,h2]
theorem cnb (b:Bool):zA.cells none (bl b)=some [bl b]:=rfl
section
variable {N:Nat} {E:qaS} {x:Sc} {t:Tm} {c l:Nat} {w:Rw} {dn:Bool} {H:qaS} (hN:23<=N) (hM:∀i,i<22->∀s,cl (qag CP N E) 121 [pv x,u8 (.ofNat (i+1)),t.v] s=some (qcN (qbm i x t),s))
include hN hM
theorem qn2 (s:ASt)(tok:Nat)(y:List Rw)(hs:s.heap=(l,.cells (VC (c+1) w dn tok y))::H)(hlg:LG s tok y)(hy:y.length+22<=100000000):
  ((∀o∈qhB x t c 0,(o.1,o.2.1)≠w)→∃c22 s' tok',s70_5 (qag CP N E) N (.ptr l 0) (i64 (.ofNat c)) (u8 1) 0 t.c [sw x.sn,i64 x.top] Zt [] [] [] s=s70_4 (qag CP N E) N (.ptr l 0) (i64 0) 0 t.c [sw x.sn,i64 x.top] Zt c22 (oc t (.sl 0 [] .full)) [] s'∧
   s'.heap=(l,.cells (VC (c+1) w dn tok' (y++qeN (qhB x t c 0))))::H/\s'.next=s.next/\Vs s tok y s' tok' (y++qeN (qhB x t c 0)))/\
  (∀o∈qhB x t c 0,(o.1,o.2.1)=w→∃s' tok' y',s70_5 (qag CP N E) N (.ptr l 0) (i64 (.ofNat c)) (u8 1) 0 t.c [sw x.sn,i64 x.top] Zt [] [] [] s=some (o.2.2.v,s')∧
   s'.heap=(l,.cells (VC (c+1) w true tok' y'))::H/\s'.next=s.next/\Vs s tok y s' tok' y'/\y'.length<=y.length+22):=by
 unfold s70_5
 generalize hF:(fun(h26:zA->Nat->List zA->List zA->List zA->List zA->List zA->List zA->ASt->Res) (x17:zA) (g18:Nat) (c19 c20 c21 c22 c23 c24:List zA) (s25:ASt)=>_)=F
 have step:∀(i:Nat) (L:zA->Nat->List zA->List zA->List zA->List zA->List zA->List zA->ASt->Res) (g:Nat) (c22:List zA) (s:ASt) (tok:Nat) (y:List Rw),i<22->s.heap=(l,.cells (VC (c+1) w dn tok y))::H->LG s tok y->y.length<100000000->
   (qbm i x t=none->∃c22',F L (u8 (.ofNat (i+1))) g t.c [sw x.sn,i64 x.top] Zt c22 [] [] s=L (u8 (.ofNat (i+2))) (g+1) t.c [sw x.sn,i64 x.top] Zt c22' [] [] s)/\
   (∀u,qbm i x t=some u→∃s' tok',s'.next=s.next∧Vs s tok y s' tok' (y++[(Int.ofNat (i+1),Int.ofNat c)])∧
    (w≠(Int.ofNat (i+1),Int.ofNat c)->s'.heap=(l,.cells (VC (c+1) w dn tok' (y++[(Int.ofNat (i+1),Int.ofNat c)])))::H/\F L (u8 (.ofNat (i+1))) g t.c [sw x.sn,i64 x.top] Zt c22 [] [] s=L (u8 (.ofNat (i+2))) (g+1) t.c [sw x.sn,i64 x.top] Zt u.c [] [] s')/\
    (w=(Int.ofNat (i+1),Int.ofNat c)->∃s'',s''.heap=(l,.cells (VC (c+1) w true tok' (y++[(Int.ofNat (i+1),Int.ofNat c)])))::H/\s''.next=s.next/\s''.ntok=s'.ntok/\s''.toks=s'.toks/\F L (u8 (.ofNat (i+1))) g t.c [sw x.sn,i64 x.top] Zt c22 [] [] s=some (u.v,s''))):=by
  intro i L g c22 s tok y hi hs hlg hy
  have hc:=hM i hi
  have hle:¬((22:Int)<Int.ofNat (i+1)):=by simp only[zaf];omega
  have hw:qbb .u8 (Int.ofNat (i+1)+1)=Int.ofNat (i+2):=by
   have:Int.ofNat (i+1)+1=Int.ofNat (i+2):=by simp only[zaf];omega
   rw[this]
   exact qpH (by omega)
  refine⟨fun h=>?_,fun u h=>?_⟩
  ·rw[h] at hc
   refine⟨Tm.z.c,?_⟩
   subst hF
   unfold s70_0
   simp -implicitDefEqProofs only[hle,qhz,qcg,hc,hw,za9,qah,qav,qad,qbk,qaz,decide_false,zam,qaa,cond_true,qal,zab,zaa,qab,qan,qaw,qax,qam,cnd,qaB,zaJ,zaD]
  ·rw[h] at hc
   have hcell:qas (qag CP N E).E s l=some (VC (c+1) w dn tok y):=qaW hs
   have hbd:bd [u8 0,i64 0] [(0,none,.c (u8 (.ofNat (i+1)))),(1,none,.c (i64 (.ofNat c)))]=some (rv (Int.ofNat (i+1),Int.ofNat c)):=rfl
   have hms:ms 1 [.int .u8 0,.int .i64 0] [(0,some 2,.c (rv (Int.ofNat (i+1),Int.ofNat c)))]=some (.sl 1 (rwC (Int.ofNat (i+1),Int.ofNat c)) .full):=rfl
   obtain⟨tok',s1,e1,e2,e3,e4⟩:=qrK (qag CP N E) hlg (Int.ofNat (i+1),Int.ofNat c) (by omega)
   have hs1:s1.heap=(l,.cells (VC (c+1) w dn tok y))::H:=e2.trans hs
   have hst:=qrq (o:=4) (cs:=[qeM tok' (y++[(Int.ofNat (i+1),Int.ofNat c)])]) (new:=VC (c+1) w dn tok' (y++[(Int.ofNat (i+1),Int.ofNat c)])) hs1 (qju _ _) rfl
   generalize hs2:({s1 with heap:=(l,zH.cells (VC (c+1) w dn tok' (y++[(Int.ofNat (i+1),Int.ofNat c)])))::H}:ASt)=s2 at hst
   have hs2h:s2.heap=(l,.cells (VC (c+1) w dn tok' (y++[(Int.ofNat (i+1),Int.ofNat c)])))::H:=by rw[<-hs2]
   have hcell2:qas (qag CP N E).E s2 l=some (VC (c+1) w dn tok' (y++[(Int.ofNat (i+1),Int.ofNat c)])):=qaW hs2h
   have hst3:=qrq (o:=3) (cs:=[bl true]) (new:=VC (c+1) w true tok' (y++[(Int.ofNat (i+1),Int.ofNat c)])) hs2h rfl rfl
   have hlc:=qhu tok' (y++[(Int.ofNat (i+1),Int.ofNat c)])
   refine⟨s2,tok',by rw[<-hs2];exact e3,by rw[<-hs2];exact e4.heap _,fun hne=>⟨hs2h,?_⟩,fun heq=>⟨{s2 with heap:=(l,.cells (VC (c+1) w true tok' (y++[(Int.ofNat (i+1),Int.ofNat c)])))::H},rfl,by rw[<-hs2];exact e3,rfl,rfl,?_⟩⟩
   ·have hd:decide (w=(Int.ofNat (i+1),Int.ofNat c))=false:=decide_eq_false hne
    subst hF
    unfold s70_0
    simp -implicitDefEqProofs only[hle,qhz,qcg,hc,hw,za9,qd4,zaH,ldP hcell,vc4,hbd,hms,e1,hlc,hst,ldP hcell2,vc1,qvY,hd,qah,qav,qad,qbk,qaz,decide_false,zak,zam,qaa,cond_true,cond_false,qal,zab,zaa,qab,qan,qaw,qax,qam,qbv,cnd,qaB,zaB,zbf]
   ·have hd:decide (w=(Int.ofNat (i+1),Int.ofNat c))=true:=decide_eq_true heq
    subst hF
    unfold s70_0
    simp -implicitDefEqProofs only[hle,qhz,qcg,hc,hw,za9,qd4,zaH,ldP hcell,vc4,hbd,hms,e1,hlc,hst,ldP hcell2,vc1,qvY,hd,cnb,hst3,qah,qav,qad,qbk,qaz,decide_false,zak,zam,qaa,cond_true,cond_false,qal,zab,zaa,qab,qan,qaw,qax,qam,qbv,cnd,qaB,zaB,zbf]
 have h0:u8 1=u8 (.ofNat (0+1)):=rfl
 have e0:qeN ([]:List Of)=[]:=rfl
 constructor
 ·intro hno
  have key:∀(m i k g:Nat) (c22:List zA) (s:ASt) (tok:Nat) (y:List Rw),i+m=22->m<k->(∀o∈qhB x t c i,(o.1,o.2.1)≠w)->s.heap=(l,.cells (VC (c+1) w dn tok y))::H->LG s tok y->y.length+m<=100000000->
    ∃c22' s' tok',lp (fun _ _ _ _ _ _ _ _ _=>none) F k (u8 (.ofNat (i+1))) g t.c [sw x.sn,i64 x.top] Zt c22 [] [] s=s70_4 (qag CP N E) N (.ptr l 0) (i64 0) 0 t.c [sw x.sn,i64 x.top] Zt c22' (oc t (.sl 0 [] .full)) [] s'/\
     s'.heap=(l,.cells (VC (c+1) w dn tok' (y++qeN (qhB x t c i))))::H/\s'.next=s.next/\Vs s tok y s' tok' (y++qeN (qhB x t c i)):=by
   intro m
   induction m with
   |zero=>
    intro i k g c22 s tok y hi hk _ hs hlg _
    obtain⟨k,rfl⟩:∃m,k=m+1:=⟨k-1,by omega⟩
    have hi:i=22:=by omega
    subst hi
    refine⟨c22,s,tok,?_,by rw[qjC,e0,zbe];exact hs,rfl,by rw[qjC,e0,zbe];exact Vs.refl hlg⟩
    rw[qbh]
    generalize lp _ F k=L
    subst hF
    have hle:(22:Int)<Int.ofNat (22+1):=by simp only[zaf];omega
    generalize s70_4 (qag CP N E) N=G
    simp -implicitDefEqProofs only[hle,qcg,cn0,tc4,qah,qav,qad,qbk,decide_true,zak,qaa,cond_false,qal,zab,zaa,cnd]
   |succ m ih=>
    intro i k g c22 s tok y hi hk hno hs hlg hy
    obtain⟨k,rfl⟩:∃m,k=m+1:=⟨k-1,by omega⟩
    rw[qbh]
    have hst:=step i (lp (fun _ _ _ _ _ _ _ _ _=>none) F k) g c22 s tok y (by omega) hs hlg (by omega)
    rw[qk6 x t c (show i<22 by omega)] at hno⊢
    cases hr:qbm i x t with
    |none=>
     rw[hr] at hno
     obtain⟨c22',e⟩:=hst.1 hr
     obtain⟨c3,s',tok',a1,a2⟩:=ih (i+1) k (g+1) c22' s tok y (by omega) (by omega) hno hs hlg (by omega)
     exact⟨c3,s',tok',e.trans a1,a2⟩
    |some u=>
     rw[hr] at hno
     obtain⟨s1,tok1,b1,b2,b3,_⟩:=hst.2 u hr
     have hne:w≠(Int.ofNat (i+1),Int.ofNat c):=fun h=>hno (Int.ofNat (i+1),Int.ofNat c,u) (by simp) h.symm
     obtain⟨b4,b5⟩:=b3 hne
     obtain⟨c3,s',tok',a1,a2,a3,a4⟩:=ih (i+1) k (g+1) u.c s1 tok1 _ (by omega) (by omega) (fun o ho=>hno o (by simp[ho])) b4 b2.lg (by simp only[zax,zar,zaC];omega)
     have he:(y++[(Int.ofNat (i+1),Int.ofNat c)])++qeN (qhB x t c (i+1))=y++qeN ([(Int.ofNat (i+1),Int.ofNat c,u)]++qhB x t c (i+1)):=by simp[qeN]
     rw[he] at a2 a4
     exact⟨c3,s',tok',b5.trans a1,a2,a3.trans b1,b2.trans a4⟩
  exact key 22 0 N 0 [] s tok y rfl (by omega) hno hs hlg (by omega)
 ·intro o ho hw
  have key:∀(m i k g:Nat) (c22:List zA) (s:ASt) (tok:Nat) (y:List Rw),i+m=22->m<k->o∈qhB x t c i->s.heap=(l,.cells (VC (c+1) w dn tok y))::H->LG s tok y->y.length+m<=100000000->
    ∃s' tok' y',lp (fun _ _ _ _ _ _ _ _ _=>none) F k (u8 (.ofNat (i+1))) g t.c [sw x.sn,i64 x.top] Zt c22 [] [] s=some (o.2.2.v,s')/\s'.heap=(l,.cells (VC (c+1) w true tok' y'))::H/\s'.next=s.next/\Vs s tok y s' tok' y'/\y'.length<=y.length+m:=by
   intro m
   induction m with
   |zero=>
    intro i k g c22 s tok y hi hk ho
    have hi:i=22:=by omega
    subst hi
    rw[qjC] at ho
    cases ho
   |succ m ih=>
    intro i k g c22 s tok y hi hk ho hs hlg hy
    obtain⟨k,rfl⟩:∃m,k=m+1:=⟨k-1,by omega⟩
    rw[qbh]
    have hst:=step i (lp (fun _ _ _ _ _ _ _ _ _=>none) F k) g c22 s tok y (by omega) hs hlg (by omega)
    rw[qk6 x t c (show i<22 by omega)] at ho
    cases hr:qbm i x t with
    |none=>
     rw[hr] at ho
     obtain⟨c22',e⟩:=hst.1 hr
     obtain⟨s',tok',y',a1,a2,a3,a4,a5⟩:=ih (i+1) k (g+1) c22' s tok y (by omega) (by omega) ho hs hlg (by omega)
     exact⟨s',tok',y',e.trans a1,a2,a3,a4,by omega⟩
    |some u=>
     rw[hr] at ho
     obtain⟨s1,tok1,b1,b2,b3,b6⟩:=hst.2 u hr
     by_cases hq:w=(Int.ofNat (i+1),Int.ofNat c)
     ·obtain⟨s2,d1,d2,d3,d4,d5⟩:=b6 hq
      have hou:o.2.2=u:=by
       simp only[zaG,zaI,zaE] at ho
       rcases ho with rfl|ho
       ·rfl
       ·exfalso
        unfold qhB at ho
        rw[List.mem_filterMap] at ho
        obtain⟨i2,h1,h2⟩:=ho
        rw[zad] at h2
        obtain⟨v,h3,rfl⟩:=h2
        have h4:i+1<=i2:=by
         obtain⟨q,hq1,hq2⟩:=List.getElem_of_mem h1
         rw[List.getElem_drop] at hq2
         have hq3:i+1+q<22:=by rw[List.length_drop] at hq1;have:ruL.length=22:=rfl;omega
         have:=qjt hq3
         obtain⟨_,hq4⟩:=zap.1 this
         rw[hq4] at hq2
         omega
        rw[hq,zaq] at hw
        have:=hw.1
        simp only[zaf] at this
        omega
      refine⟨s2,tok1,_,by rw[hou];exact d5,d1,d2,⟨by rw[d3];exact b2.nt,by rw[d4];exact b2.ag,b2.tk,fun h=>?_⟩,by simp only[zax,zar,zaC];omega⟩
      rw[d3,d4]
      exact b2.lg h
     ·obtain⟨b4,b5⟩:=b3 hq
      have ho':o∈qhB x t c (i+1):=by
       simp only[zaG,zaI,zaE] at ho
       rcases ho with rfl|ho
       ·exact absurd hw.symm hq
       ·exact ho
      obtain⟨s',tok',y',a1,a2,a3,a4,a5⟩:=ih (i+1) k (g+1) u.c s1 tok1 _ (by omega) (by omega) ho' b4 b2.lg (by simp only[zax,zar,zaC];omega)
      simp only[zax,zar,zaC] at a5
      exact⟨s',tok',y',b5.trans a1,a2,a3.trans b1,b2.trans a4,by omega⟩
  exact key 22 0 N 0 [] s tok y rfl (by omega) ho hs hlg (by omega)
end
end Go.AI.Tryz
namespace Go.AI.Tryz
def KI (n0:Nat)(s:ASt)(j tk tok:Nat)(y:List Rw):Prop:=0<j->n0<=tk/\tk<s.ntok/\qar s.toks tk=some (j,5)/\(y≠[]->tk≠tok)
theorem KI.visit {n0:Nat}{s s1:ASt}{j tk tok tok1:Nat}{y y1:List Rw}(h:KI n0 s j tk tok y)(v:Vs s tok y s1 tok1 y1):KI n0 s1 j tk tok1 y1:=fun hj=>by
 obtain⟨h1,h2,h3,h4⟩:=h hj
 have:=v.nt
 refine⟨h1,by omega,by rw[v.ag tk h2 h4,h3],fun hy=>?_⟩
 rcases v.tk hy with⟨q1,q2⟩|q
 ·rw[q2];exact h4 q1
 ·omega
theorem qlZ (e:Env){f:Nat->List zP}{s s0:ASt}{k0 j tk tok:Nat}{y0 y:List Rw}{u:Tm}(hk:KI s0.ntok s j tk tok y)(v:Vs s0 k0 y0 s tok y)(hj:j<=1000000)(hf:f (j+1)=(if j=0 then[] else f j)++u.cells):
  ∃tk' s',ap e 5 56 (qb8 f tk j) (.sl 1 u.cells .full) s=some (qb8 f tk' (j+1),s')/\s'.heap=s.heap/\s'.next=s.next/\KI s0.ntok s' (j+1) tk' tok y/\Vs s0 k0 y0 s' tok y:=by
 have vn:=v.nt
 cases j with
 |zero=>
  refine⟨s.ntok,{s with ntok:=s.ntok+1,toks:=(s.ntok,1,5)::s.toks},?_,rfl,rfl,fun _=>⟨vn,Nat.lt_succ_self _,?_,fun hy=>?_⟩,⟨by show _<=s.ntok+1;omega,fun t ht hn=>?_,v.tk,fun hy=>?_⟩⟩
  ·show ap e 5 56 (.sl 0 [] .full) _ s=_
   rw[qfP e s rfl (Tm.len_cells u) (by omega)]
   simp only[qb8,hf,if_true,zaI]
  ·show qar ((s.ntok,1,5)::s.toks) s.ntok=_
   rw[qao,if_pos rfl]
  ·have:=(v.lg hy).1
   omega
  ·show qar ((s.ntok,1,5)::s.toks) t=_
   rw[qao,if_neg (by omega)]
   exact v.ag t ht hn
  ·obtain⟨h1,h2⟩:=v.lg hy
   refine⟨Nat.lt_succ_of_lt h1,?_⟩
   show qar ((s.ntok,1,5)::s.toks) tok=_
   rw[qao,if_neg (by omega)]
   exact h2
 |succ j=>
  obtain⟨h1,h2,h3,h4⟩:=hk (Nat.succ_pos _)
  obtain⟨ts,e1,e2⟩:=qmQ e (sz:=5) (b:=56) (n:=j+1) (t:=tk) (cs:=f (j+1)) (new:=u.cells) (y:=.sl 1 u.cells .full) h3 rfl (Tm.len_cells u) (by omega)
  refine⟨tk,{s with toks:=ts},?_,rfl,rfl,fun _=>⟨h1,h2,?_,h4⟩,⟨vn,fun t ht hn=>?_,v.tk,fun hy=>?_⟩⟩
  ·simp only[qb8]
   rw[hf,if_neg (by omega)]
   exact e1
  ·show qar ts tk=_
   rw[e2,if_pos rfl]
  ·show qar ts t=_
   rw[e2,if_neg (by omega)]
   exact v.ag t ht hn
  ·obtain⟨g1,g2⟩:=v.lg hy
   refine⟨g1,?_⟩
   show qar ts tok=_
   rw[e2,if_neg (fun q=>h4 hy q.symm)]
   exact g2
structure KidP (N:Nat)(x:Sc)(t:Tm):Prop where
 cell:∀E s,cl (qag CP N E) 122 [i64 t.n] s=some ((Sn.cell t.n).v,s)
 wcell:∀E s,cl (qag CP N E) 119 [sw x.sn,(Sn.cell t.n).v] s=some (sw (x.sn++[Sn.cell t.n]),s)
 size:t.k=17->∀u,t.ks[0]? =some u->∀E s,cl (qag CP N E) 123 [pv x,u.v] s=some (i64 (szF x u).1,s)
 val:∀E s,cl (qag CP N E) 120 [i64 (szF x (t.ks.headD .z)).1] s=some ((Sn.val (szF x (t.ks.headD .z)).1).v,s)
 wval:∀E s,cl (qag CP N E) 119 [sw x.sn,(Sn.val (szF x (t.ks.headD .z)).1).v] s=some (sw (x.sn++[Sn.val (szF x (t.ks.headD .z)).1]),s)
theorem qt6 {x:Sc}{t:Tm}(h:Rd x t):Ev fun N=>KidP N x t:=by
 have hl:=h.len
 have hsn:x.sn.length<=1000000:=by rw[qqd];omega
 have hs:Ev fun N=>t.k=17->∀u,t.ks[0]? =some u->∀E s,cl (qag CP N E) 123 [pv x,u.v] s=some (i64 (szF x u).1,s):=Ev.imp fun h17=>by
  cases h.nd.sh with
  |obj u w=>
   have hk:=h.kid (j:=0) (u:=u) rfl
   rw[qfc h17] at hk
   have hsz:u.k≠16/\u.k≠17:=by
    rcases h.nd.w with g|⟨b,g⟩
    ·rw[qdN] at g;cases g
    ·rw[qlQ] at g
     simp only[zag] at g
     exact qum g.2.1.1
   exact(hk.psize hsz).mono fun N hN v hv E s=>by
    simp only[Tm.ks,zas,zac] at hv
    subst hv
    exact hN E s
  |_=>simp[Tm.k] at h17
 exact(((qqa t.n).and (qjz x.sn hsn (Sn.cell t.n))).and (hs.and ((qst (szF x (t.ks.headD .z)).1).and (qjz x.sn hsn (Sn.val (szF x (t.ks.headD .z)).1))))).mono fun N ⟨⟨a,b⟩,c,d,e⟩=>⟨a,b,c,d,e⟩
theorem qqq (x:Sc)(t:Tm)(j:Nat):(x.kid t j).top=x.top:=by
 unfold Sc.kid
 split
 ·rfl
 ·split
  ·rfl
  ·split<;>rfl
theorem qqr {N:Nat}{E:qaS}{x:Sc}{t:Tm}(ht:x.top<=Int.ofNat x.ids.length)(hp:KidP N x t){j:Nat}(hj:j<t.ks.length)(g:Nat)(c80 c81 c82:List zA)(s:ASt)(J:List zA->List zA->List zA->List zA->List zA->List zA->ASt->Res):
  ((ldL [sw x.sn,i64 x.top] 0 (some 2)).bind fun x89=>(zA.cells (some 2) x89).bind fun c90=>cnd (Nat.beq (g+1) (g+1)) ((over [.sl 0 [] .full,i64 0] 0 c90).bind fun c91=>(ldL t.c 0 none).bind fun x92=>(bn .eql x92 (u8 10)).bind fun x93=>
   jn J fun j115=>qae x93 ((ldL [sw x.sn,i64 x.top] 0 none).bind fun x116=>(ldL t.c 1 none).bind fun x117=>qac (cl (qag CP N E) 122 [x117] s) fun x118 s119=>qac (cl (qag CP N E) 119 [x116,x118] s119) fun x120 s121=>
    (zA.cells none x120).bind fun c122=>cnd (Nat.beq (g+1) (g+1)) ((over c91 0 c122).bind fun c123=>j115 t.c [sw x.sn,i64 x.top] c80 c81 c82 c123 s121) none)
    (jn (s70_3 (qag CP N E) N j115 [sw x.sn,i64 x.top] t.c s g c91 c80 c81 c82) fun j147=>(ldL t.c 0 none).bind fun x148=>(bn .eql x148 (u8 17)).bind fun x149=>qae x149 ((bn .eql (i64 (.ofNat j)) (i64 1)).bind fun x150=>j147 x150) (j147 (bl false)))) none)=
  J t.c [sw x.sn,i64 x.top] c80 c81 c82 [sw (x.kid t j).sn,i64 x.top] s:=by
 have o1:over [.sl 0 [] .full,i64 0] 0 [sw x.sn,i64 x.top]=some [sw x.sn,i64 x.top]:=rfl
 have o2:∀a:zA,over [sw x.sn,i64 x.top] 0 [a]=some [a,i64 x.top]:=fun _=>rfl
 have cw:∀l:List Sn,zA.cells none (sw l)=some [sw l]:=fun _=>rfl
 have e1:(Int.ofNat j=1)=(j=1):=by simp only[zaf,eq_iff_iff];omega
 unfold s70_3 s70_2
 by_cases k10:t.k=10
 ·have hk:(x.kid t j).sn=x.sn++[Sn.cell t.n]:=by unfold Sc.kid;rw[if_pos k10,qjA x _ ht];rfl
  rw[hk]
  simp -implicitDefEqProofs only[qhz,bs0,pvc,o1,o2,cw,k10,hp.cell,hp.wcell,za9,qba,qbY,qbi,qad,qaf,zaj,decide_true,decide_false,qaa,cond_true,cond_false,qal,zab,zaa,qab,cnd]
 ·by_cases k17:t.k=17
  ·by_cases j1:j=1
   ·obtain⟨u,hu⟩:∃u,t.ks[0]? =some u:=⟨_,zah (show 0<t.ks.length by omega)⟩
    have hd:t.ks.headD .z=u:=by
     cases hks:t.ks with
     |nil=>rw[hks] at hu;cases hu
     |cons a r=>rw[hks] at hu;simpa using hu
    have hk:(x.kid t j).sn=x.sn++[Sn.val (szF x u).1]:=by unfold Sc.kid;rw[if_neg k10,if_pos ⟨k17,j1⟩,qjA x _ ht,hd];rfl
    rw[hk]
    obtain⟨i0,l0⟩:=qb6 (n:=N) (E:=E) (l:=t.ks) (u:=u) hu
    have c1:=hp.size k17 u hu E
    have c2:=hp.val E
    have c3:=hp.wval E
    rw[hd] at c2 c3
    have e2:decide (Int.ofNat j=1)=true:=decide_eq_true (by rw[j1];rfl)
    simp -implicitDefEqProofs only[qhz,bs0,pvc,o1,o2,cw,k17,e2,i0,l0,c1,c2,c3,za9,qba,qbY,qbi,qad,qaf,zaj,decide_true,decide_false,qaa,cond_true,cond_false,qal,zab,zaa,qab,cnd]
   ·have hk:(x.kid t j).sn=x.sn:=by
     unfold Sc.kid
     rw[if_neg k10,if_neg (fun q=>j1 q.2),if_neg (fun q=>by omega)]
    rw[hk]
    simp -implicitDefEqProofs only[qhz,bs0,pvc,o1,k17,e1,j1,za9,qba,qbY,qbi,qad,qaf,zaj,decide_true,decide_false,qaa,cond_true,cond_false,qal,zab,zaa,cnd]
  ·have hk:(x.kid t j).sn=x.sn:=by
    unfold Sc.kid
    rw[if_neg k10,if_neg (fun q=>k17 q.1)]
    split<;>rfl
   rw[hk]
   simp -implicitDefEqProofs only[qhz,bs0,pvc,o1,k10,k17,za9,qba,qbY,qbi,qad,qaf,decide_false,qaa,cond_false,qal,zab,zaa,cnd]
end Go.AI.Tryz
namespace Go.AI.Tryz
theorem qjD (sm:Int->Bool):∀(l m:List (Sc×Tm)) (c:Nat),qds sm (.ofNat c) (l++m)=qds sm (.ofNat c) l++qds sm (.ofNat (c+l.length)) m
 |[],m,c=>rfl
 |p::l,m,c=>by
  have e:Int.ofNat c+1=Int.ofNat (c+1):=rfl
  simp only[zaG,qds,e,zar]
  rw[qjD sm l m (c+1),zaR,show c+1+l.length=c+(l.length+1) by omega]
theorem qdi {sm:Int->Bool}{l:List (Sc×Tm)}{c:Nat}{o:Of}(h:o∈qds sm (.ofNat c) l):∃j,j<l.length/\o.2.1=Int.ofNat (c+j):=by
 obtain⟨j,p,i,h1,h2,_⟩:=qeF h
 obtain⟨hj,_⟩:=zap.1 h1
 exact⟨j,hj,by rw[h2];rfl⟩
theorem qk7 (x:Sc)(t:Tm)(c:Nat):qds qc2 (.ofNat c) (qbo t x)=qhB x t c 0++qds qc2 (.ofNat (c+1)) (qbd (fun j=>x.kid t j) 0 t.ks):=by
 rw[qcV]
 simp only[qds]
 rw[qqp]
 rfl
theorem qiD {x:Sc}{t:Tm}{c i:Nat}{o:Of}(h:o∈qhB x t c i):o.2.1=Int.ofNat c:=by
 unfold qhB at h
 rw[List.mem_filterMap] at h
 obtain⟨i2,_,h2⟩:=h
 rw[zad] at h2
 obtain⟨v,_,rfl⟩:=h2
 rfl
theorem qfD (a b:List Of):qeN (a++b)=qeN a++qeN b:=List.map_append
def qrL (NS:List (Sc×Tm))(N d:Nat):Prop:=∀t x,t.size<=d->(∀p∈qbo t x,p∈NS)->∀E s l H c w dn tok y,s.heap=(l,.cells (VC c w dn tok y))::H->LG s tok y->c+t.size<=1000000000->y.length+22*t.size<=100000000->
 ((∀o∈qds qc2 (.ofNat c) (qbo t x),(o.1,o.2.1)≠w)->∃s' tok',cl (qag CP N E) 70 [.ptr l 0,t.v,pv x] s=some (t.v,s')/\s'.heap=(l,.cells (VC (c+t.size) w dn tok' (y++qeN (qds qc2 (.ofNat c) (qbo t x)))))::H/\s'.next=s.next/\Vs s tok y s' tok' (y++qeN (qds qc2 (.ofNat c) (qbo t x))))/\
 (∀o∈qds qc2 (.ofNat c) (qbo t x),(o.1,o.2.1)=w->∃s' tok' c' y',cl (qag CP N E) 70 [.ptr l 0,t.v,pv x] s=some ((Tm.put1 o.2.2 (o.2.1-.ofNat c).toNat t).v,s')/\s'.heap=(l,.cells (VC c' w true tok' y'))::H/\s'.next=s.next/\Vs s tok y s' tok' y'/\o.2.1< .ofNat c'/\c'<=c+t.size/\y'.length<=y.length+22*t.size)
abbrev KT:=zA->Nat->List zA->List zA->List zA->List zA->List zA->List zA->ASt->Res
noncomputable def qt7 (e:Env) (n:Nat) (x0:zA):KT->KT:=fun h85 x76 g77 c78 c79 c80 c81 c82 c83 s84=>
 (ldL c78 4 none).bind fun x86=>
 (ln false x86).bind fun x87=>
 (bn .lss x76 x87).bind fun x88=>
 qae x88 ((ldL c79 0 (some 2)).bind fun x89=>
 (zA.cells (some 2) x89).bind fun c90=>
 cnd (Nat.beq (g77+1) (g77+1)) ((over [(.sl 0 [] .full),(i64 0)] 0 c90).bind fun c91=>
 (ldL c78 0 none).bind fun x92=>
 (bn .eql x92 (u8 10)).bind fun x93=>
 jn (s70_1 e n x76 g77 x0 h85) fun j115=>
 qae x93 ((ldL c79 0 none).bind fun x116=>
 (ldL c78 1 none).bind fun x117=>
 qac (cl e 122 [x117] s84) fun x118 s119=>
 qac (cl e 119 [x116,x118] s119) fun x120 s121=>
 (zA.cells none x120).bind fun c122=>
 cnd (Nat.beq (g77+1) (g77+1)) ((over c91 0 c122).bind fun c123=>
 j115 c78 c79 c80 c81 c82 c123 s121) none)
 (jn (s70_3 e n j115 c79 c78 s84 g77 c91 c80 c81 c82) fun j147=>
 (ldL c78 0 none).bind fun x148=>
 (bn .eql x148 (u8 17)).bind fun x149=>
 qae x149 ((bn .eql x76 (i64 1)).bind fun x150=>
 j147 x150)
 (j147 (bl false)))) none)
 ((ldL c82 0 (some 5)).bind fun x151=>
 (zA.cells (some 5) x151).bind fun c152=>
 (over c80 0 c152).bind fun c153=>
 (ldL c153 0 (some 5)).bind fun x154=>
 some (x154,s84))
theorem s70_4_lp (e:Env)(n:Nat)(x0:zA):s70_4 e n x0=lp (fun _ _ _ _ _ _ _ _ _=>none) (qt7 e n x0) n:=rfl
section
variable {N:Nat} {E:qaS} {x:Sc} {t:Tm} (hp:KidP N x t) (htop:x.top<=Int.ofNat x.ids.length) {l:Nat} (hlen:t.ks.length<=1000000)
include hp htop hlen
theorem qhC {f:Nat->List zP}{j g tk:Nat}{c81 c83:List zA}{s s1:ASt}{u r:Tm}(hu:t.ks[j]? =some u)(hv:cl (qag CP N E) 70 [.ptr l 0,u.v,pv (x.kid t j)] s=some (r.v,s1)){tk':Nat}{s2:ASt}(ha:ap (qag CP N E) 5 56 (qb8 f tk j) (.sl 1 r.cells .full) s1=some (qb8 f tk' (j+1),s2))(L:KT):
  qt7 (qag CP N E) N (.ptr l 0) L (i64 (.ofNat j)) g t.c [sw x.sn,i64 x.top] Zt c81 (oc t (qb8 f tk j)) c83 s=L (i64 (.ofNat (j+1))) (g+1) t.c [sw x.sn,i64 x.top] Zt c81 (oc t (qb8 f tk' (j+1))) [sw (x.kid t j).sn,i64 x.top] s2:=by
 have hj:j<t.ks.length:=(zap.1 hu).1
 have hpv:pv (x.kid t j)=.agg [sw (x.kid t j).sn,i64 x.top]:=by rw[pv,qqq]
 rw[hpv] at hv
 have hplace:=qqr (E:=E) htop hp hj g Zt c81 (oc t (qb8 f tk j)) s (s70_1 (qag CP N E) N (i64 (.ofNat j)) g (.ptr l 0) L)
 have hfin:s70_1 (qag CP N E) N (i64 (.ofNat j)) g (.ptr l 0) L t.c [sw x.sn,i64 x.top] Zt c81 (oc t (qb8 f tk j)) [sw (x.kid t j).sn,i64 x.top] s=L (i64 (.ofNat (j+1))) (g+1) t.c [sw x.sn,i64 x.top] Zt c81 (oc t (qb8 f tk' (j+1))) [sw (x.kid t j).sn,i64 x.top] s2:=by
  unfold s70_1
  simp -implicitDefEqProofs only[oc4,Tm.ia_kid hj,Tm.ld_kid _ _ hu,za9,qhz,hv,qwr _ [.int .u8 0,.int .i64 0,.int .i64 0,.int .i64 0,.sl 0 []] rfl,ha,qhA,oco,qaP (show j<9223372036854775807 by omega),qbi,qad,qaz,zab,zaa,qab,cnd]
 rw[hfin] at hplace
 rw[<-hplace]
 unfold qt7
 generalize s70_1 (qag CP N E) N=G1
 generalize s70_3 (qag CP N E) N=G3
 rw[show ldL t.c 4 none=some (.p (.sl t.ks.length (Tm.cellsL t.ks))) from rfl,zaa,qbB,zaa,qad,qaq,zab,zaa,decide_eq_true (of_lt.2 hj),qaa,cond_true]
end
theorem qt8 {N:Nat}{E:qaS}{x:Sc}{t:Tm}{l g:Nat}{c81 c83:List zA}{s:ASt}(L:KT)(v:zA):qt7 (qag CP N E) N (.ptr l 0) L (i64 (.ofNat t.ks.length)) g t.c [sw x.sn,i64 x.top] Zt c81 (oc t v) c83 s=some (.agg (oc t v),s):=by
 have h3:¬(Int.ofNat t.ks.length<Int.ofNat t.ks.length):=fun h=>zaZ _ (of_lt.1 h)
 unfold qt7
 generalize s70_1 (qag CP N E) N=G1
 generalize s70_3 (qag CP N E) N=G3
 simp -implicitDefEqProofs only[h3,ocl,occ,ocz,qba,qbY,qbi,qad,qaf,qaq,decide_false,qaa,cond_false,qal,zab,zaa,qbB,cnd]
end Go.AI.Tryz
namespace Go.AI.Tryz
theorem qdS:∀(q:List (Sc×Tm)) (c:Nat),(qds qc2 (.ofNat c) q).length<=22*q.length
 |[],_=>za3 _
 |p::q,c=>by
  simp only[qds,zax,zar]
  have:(qdq qc2 p.1 p.2 (.ofNat c)).length<=22:=by rw[qqp];exact qnc _ _ _ _
  have e:Int.ofNat c+1=Int.ofNat (c+1):=rfl
  rw[e]
  have:=qdS q (c+1)
  omega
abbrev kzL:KT:=fun _ _ _ _ _ _ _ _ _=>none
section
variable {NS:List (Sc×Tm)} {N d:Nat} (ih:qrL NS N d) {E:qaS} {x:Sc} {t:Tm} (hp:KidP N x t) (htop:x.top<=Int.ofNat x.ids.length) {l:Nat} {H:qaS} {w:Rw} {s0:ASt} {k0:Nat} {y0:List Rw} (hd:∀u∈t.ks,u.size<=d) (hlen:t.ks.length<=1000000)
include ih hp htop hd hlen
theorem qqs:∀(r ps done:List Tm) (j k g c:Nat) (dn:Bool) (tk:Nat) (c81 c83:List zA) (s:ASt) (tok:Nat) (y:List Rw),t.ks=done++r->done.length=j->ps.length=j->r.length<k->s.heap=(l,.cells (VC c w dn tok y))::H->KI s0.ntok s j tk tok y->Vs s0 k0 y0 s tok y->
  c+Tm.sizeL r<=1000000000->y.length+22*Tm.sizeL r<=100000000->(∀p∈qbd (fun j=>x.kid t j) j r,p∈NS)->(∀o∈qds qc2 (.ofNat c) (qbd (fun j=>x.kid t j) j r),(o.1,o.2.1)≠w)->
  ∃tk' s' tok',lp kzL (qt7 (qag CP N E) N (.ptr l 0)) k (i64 (.ofNat j)) g t.c [sw x.sn,i64 x.top] Zt c81 (oc t (qb8 (fun i=>Tm.cellsL ((ps++r).take i)) tk j)) c83 s=some (.agg (oc t (qb8 (fun i=>Tm.cellsL ((ps++r).take i)) tk' (ps++r).length)),s')/\
   s'.heap=(l,.cells (VC (c+Tm.sizeL r) w dn tok' (y++qeN (qds qc2 (.ofNat c) (qbd (fun j=>x.kid t j) j r)))))::H/\s'.next=s.next/\Vs s0 k0 y0 s' tok' (y++qeN (qds qc2 (.ofNat c) (qbd (fun j=>x.kid t j) j r)))
 |[],ps,done,j,k,g,c,dn,tk,c81,c83,s,tok,y,h1,h2,h3,hk,hs,hki,hv,_,_,_,_=>by
  obtain⟨k,rfl⟩:∃m,k=m+1:=⟨k-1,by simp only[zaC] at hk;omega⟩
  have hj:j=t.ks.length:=by rw[h1];simp[h2]
  subst hj
  refine⟨tk,s,tok,?_,by simp only[qbd,qds,Tm.sizeL,zbm,zbe,zbj];exact hs,rfl,by simp only[qbd,qds,zbm,zbe];exact hv⟩
  rw[qbh,zbe,h3]
  exact qt8 _ _
 |u::r,ps,done,j,k,g,c,dn,tk,c81,c83,s,tok,y,h1,h2,h3,hk,hs,hki,hv,hc,hy,hm,hno=>by
  obtain⟨k,rfl⟩:∃m,k=m+1:=⟨k-1,by simp only[zar] at hk;omega⟩
  simp only[zar,Tm.sizeL] at hk hc hy
  have hu:t.ks[j]? =some u:=by rw[h1,zaA (by omega),h2];simp
  have hjl:j<t.ks.length:=(zap.1 hu).1
  have hum:u∈t.ks:=zaQ hu
  simp only[qbd] at hm hno⊢
  rw[qjD,qbN] at hno⊢
  obtain⟨s1,tok1,a1,a2,a3,a4⟩:=(ih u (x.kid t j) (hd u hum) (fun p q=>hm p (List.mem_append_left _ q)) E s l H c w dn tok y hs hv.lg (by omega) (by omega)).1 (fun o ho=>hno o (List.mem_append_left _ ho))
  have hv1:=hv.trans a4
  have hoL:=qdS (qbo u (x.kid t j)) c
  rw[qbN] at hoL
  obtain⟨tk',s2,b1,b2,b3,b4,b5⟩:=qlZ (qag CP N E) (f:=fun i=>Tm.cellsL ((ps++u::r).take i)) (u:=u) (hki.visit a4) hv1 (by omega) (by
   have:(ps++u::r)[j]'(by simp[h3])=u:=by simp[<-h3]
   have h:=qbL (ks:=ps++u::r) (j:=j) (by simp[h3])
   rw[this] at h
   exact h)
  obtain⟨tk2,s3,tok3,d1,d2,d3,d4⟩:=qqs r (ps++[u]) (done++[u]) (j+1) k (g+1) (c+u.size) dn tk' c81 [sw (x.kid t j).sn,i64 x.top] s2 tok1 _ (by rw[h1];simp) (by simp[h2]) (by simp[h3]) (by omega) (b2.trans a2) b4 b5 (by omega)
   (by rw[zax,zaY];omega) (fun p q=>hm p (List.mem_append_right _ q)) (fun o ho=>hno o (List.mem_append_right _ ho))
  have e1:(ps++[u])++r=ps++u::r:=by simp
  rw[e1] at d1
  rw[show c+u.size+Tm.sizeL r=c+(u.size+Tm.sizeL r) by omega,zaR,<-qfD] at d2
  rw[zaR,<-qfD] at d4
  refine⟨tk2,s3,tok3,?_,d2,d3.trans (b3.trans a3),d4⟩
  rw[qbh]
  exact(qhC hp htop hlen hu a1 b1 _).trans d1
end
end Go.AI.Tryz
namespace Go.AI.Tryz
theorem qqt (u:Tm)(j:Nat)(k:Tm)(r:List Tm):Tm.putL u j (k::r)=if j<k.size then Tm.put1 u j k::r else k::Tm.putL u (j-k.size) r:=by rw[Tm.putL]
theorem ql0 (sc:Nat->Sc)(j:Nat)(r:List Tm):(qbd sc j r).length=Tm.sizeL r:=qf0 r sc j
section
variable {NS:List (Sc×Tm)} {N d:Nat} (ih:qrL NS N d) {E:qaS} {x:Sc} {t:Tm} (hp:KidP N x t) (htop:x.top<=Int.ofNat x.ids.length) {l:Nat} {H:qaS} {w:Rw} {s0:ASt} {k0:Nat} {y0:List Rw} (hd:∀u∈t.ks,u.size<=d) (hlen:t.ks.length<=1000000)
include ih hp htop hd hlen
theorem qsw:∀(r ps done:List Tm) (j k g c:Nat) (dn:Bool) (tk:Nat) (c81 c83:List zA) (s:ASt) (tok:Nat) (y:List Rw),t.ks=done++r->done.length=j->ps.length=j->r.length<k->s.heap=(l,.cells (VC c w dn tok y))::H->KI s0.ntok s j tk tok y->Vs s0 k0 y0 s tok y->
  c+Tm.sizeL r<=1000000000->y.length+22*Tm.sizeL r<=100000000->(∀p∈qbd (fun j=>x.kid t j) j r,p∈NS)->∀o∈qds qc2 (.ofNat c) (qbd (fun j=>x.kid t j) j r),(o.1,o.2.1)=w->∀q,q=ps++Tm.putL o.2.2 (o.2.1-.ofNat c).toNat r->
  ∃tk' s' tok' c' y',lp kzL (qt7 (qag CP N E) N (.ptr l 0)) k (i64 (.ofNat j)) g t.c [sw x.sn,i64 x.top] Zt c81 (oc t (qb8 (fun i=>Tm.cellsL (q.take i)) tk j)) c83 s=some (.agg (oc t (qb8 (fun i=>Tm.cellsL (q.take i)) tk' q.length)),s')/\
   s'.heap=(l,.cells (VC c' w true tok' y'))::H/\s'.next=s.next/\Vs s0 k0 y0 s' tok' y'/\o.2.1< .ofNat c'/\c'<=c+Tm.sizeL r/\y'.length<=y.length+22*Tm.sizeL r
 |[],ps,done,j,k,g,c,dn,tk,c81,c83,s,tok,y,_,_,_,_,_,_,_,_,_,_,o,ho,_,_,_=>by simp only[qbd,qds] at ho;cases ho
 |u::r,ps,done,j,k,g,c,dn,tk,c81,c83,s,tok,y,h1,h2,h3,hk,hs,hki,hv,hc,hy,hm,o,ho,hw,q,hq=>by
  obtain⟨k,rfl⟩:∃m,k=m+1:=⟨k-1,by simp only[zar] at hk;omega⟩
  simp only[zar,Tm.sizeL] at hk hc hy
  have hu:t.ks[j]? =some u:=by rw[h1,zaA (by omega),h2];simp
  have hjl:j<t.ks.length:=(zap.1 hu).1
  have hum:u∈t.ks:=zaQ hu
  simp only[qbd] at hm ho
  rw[qjD,qbN,zaL] at ho
  rw[qqt] at hq
  have IH:=ih u (x.kid t j) (hd u hum) (fun p hp=>hm p (List.mem_append_left _ hp)) E s l H c w dn tok y hs hv.lg (by omega) (by omega)
  have hw2:w.2=o.2.1:=by rw[<-hw]
  rcases ho with ho|ho
  ·obtain⟨i,hi,hpl⟩:=qdi ho
   rw[qbN] at hi
   obtain⟨s1,tok1,c1,y1,a1,a2,a3,a4,a5,a6,a7⟩:=IH.2 o ho hw
   have hv1:=hv.trans a4
   have hlt:(o.2.1-Int.ofNat c).toNat<u.size:=by rw[hpl];simp only[zaf];omega
   rw[if_pos hlt] at hq
   generalize hr1:Tm.put1 o.2.2 (o.2.1-Int.ofNat c).toNat u=r1 at hq a1
   subst hq
   obtain⟨tk',s2,b1,b2,b3,b4,b5⟩:=qlZ (qag CP N E) (f:=fun i=>Tm.cellsL ((ps++r1::r).take i)) (u:=r1) (hki.visit a4) hv1 (by omega) (by
    have:(ps++r1::r)[j]'(by simp[h3])=r1:=by simp[<-h3]
    have h:=qbL (ks:=ps++r1::r) (j:=j) (by simp[h3])
    rw[this] at h
    exact h)
   obtain⟨tk2,s3,tok3,d1,d2,d3,d4⟩:=qqs ih hp htop hd hlen r (ps++[r1]) (done++[u]) (j+1) k (g+1) c1 true tk' c81 [sw (x.kid t j).sn,i64 x.top] s2 tok1 y1 (by rw[h1];simp) (by simp[h2]) (by simp[h3]) (by omega) (b2.trans a2) b4 b5 (by omega) (by omega)
    (fun p q=>hm p (List.mem_append_right _ q)) (fun o' ho' he=>by
     obtain⟨i',_,hi'⟩:=qdi ho'
     have:o'.2.1=w.2:=by rw[<-he]
     rw[hw2,hi'] at this
     simp only[zaf] at this a5
     omega)
   have e1:(ps++[r1])++r=ps++r1::r:=by simp
   rw[e1] at d1
   have hol:=qdS (qbd (fun j=>x.kid t j) (j+1) r) c1
   rw[ql0] at hol
   refine⟨tk2,s3,tok3,_,_,?_,d2,d3.trans (b3.trans a3),d4,?_,by simp only[Tm.sizeL];omega,?_⟩
   ·rw[qbh]
    exact(qhC hp htop hlen hu a1 b1 _).trans d1
   ·simp only[zaf] at a5⊢;omega
   ·simp only[zax,zaY,Tm.sizeL];omega
  ·obtain⟨i,hi,hpl⟩:=qdi ho
   obtain⟨s1,tok1,a1,a2,a3,a4⟩:=IH.1 (fun o' ho' he=>by
    obtain⟨i',hi',hp'⟩:=qdi ho'
    rw[qbN] at hi'
    have:o'.2.1=w.2:=by rw[<-he]
    rw[hw2,hp',hpl] at this
    simp only[zaf] at this
    omega)
   have hv1:=hv.trans a4
   have hlt:¬(o.2.1-Int.ofNat c).toNat<u.size:=by rw[hpl];simp only[zaf];omega
   rw[if_neg hlt] at hq
   have he:(o.2.1-Int.ofNat c).toNat-u.size=(o.2.1-Int.ofNat (c+u.size)).toNat:=by rw[hpl];simp only[zaf];omega
   rw[he] at hq
   have hoL:=qdS (qbo u (x.kid t j)) c
   rw[qbN] at hoL
   have hql:j<q.length:=by rw[hq];simp[h3]
   obtain⟨tk',s2,b1,b2,b3,b4,b5⟩:=qlZ (qag CP N E) (f:=fun i=>Tm.cellsL (q.take i)) (u:=u) (hki.visit a4) hv1 (by omega) (by
    have:q[j]'hql=u:=by simp[hq,<-h3]
    have h:=qbL (ks:=q) (j:=j) hql
    rw[this] at h
    exact h)
   obtain⟨tk2,s3,tok3,c3,y3,d1,d2,d3,d4,d5,d6,d7⟩:=qsw r (ps++[u]) (done++[u]) (j+1) k (g+1) (c+u.size) dn tk' c81 [sw (x.kid t j).sn,i64 x.top] s2 tok1 _ (by rw[h1];simp) (by simp[h2]) (by simp[h3]) (by omega) (b2.trans a2) b4 b5 (by omega)
    (by rw[zax,zaY];omega) (fun p q=>hm p (List.mem_append_right _ q)) o ho hw q (by rw[hq];simp)
   rw[zax,zaY] at d7
   refine⟨tk2,s3,tok3,c3,y3,?_,d2,d3.trans (b3.trans a3),d4,d5,by simp only[Tm.sizeL];omega,by simp only[Tm.sizeL];omega⟩
   rw[qbh]
   exact(qhC hp htop hlen hu a1 b1 _).trans d1
end
theorem qnd {NS:List (Sc×Tm)}(hR:∀p∈NS,Rd p.1 p.2)(hM:Ev fun N=>∀p∈NS,(∀i,i<22->∀E s,cl (qag CP N E) 121 [pv p.1,u8 (.ofNat (i+1)),p.2.v] s=some (qcN (qbm i p.1 p.2),s))/\KidP N p.1 p.2):∀d,d<=1000000->Ev fun N=>qrL NS N d
 |0,_=>Ev.of fun N t x h=>by have:=t.size_pos;omega
 |d+1,hd1=>by
  refine Ev.succ (((qnd hR hM d (by omega)).and (hM.and (Ev.ge (d+30)))).mono fun N ⟨ih,hM,hN⟩ t x hsz hmem E s l H c w dn tok y hs hlg hc hy=>?_)
  have hself:(x,t)∈NS:=hmem _ (by rw[qcV];exact zav ..)
  have hRd:=hR _ hself
  obtain⟨hMk,hKp⟩:=hM _ hself
  have hKp:KidP N x t:=hKp
  have htop:x.top<=Int.ofNat x.ids.length:=hRd.top
  have hts:=Tm.size_ks t
  have hlen:=Tm.len_le_size t.ks
  have hdk:∀u∈t.ks,u.size<=d:=fun u hu=>by have:=qa5 hu;omega
  have hmk:∀p∈qbd (fun j=>x.kid t j) 0 t.ks,p∈NS:=fun p hp=>hmem p (by rw[qcV];exact zaw _ hp)
  have call:∀(r:Tm) (v:zA) (s':ASt),s70 (qag CP N E) N (.ptr l 0) t.v (pv x) s=some (v,s')->qaF v=r.v->cl (qag CP (N+1) E) 70 [.ptr l 0,t.v,pv x] s=some (r.v,s'):=fun r v s' h1 h2=>by
   rw[qbX]
   exact qe8 (cf:=cf70) (np:=3) (args':=[.ptr l 0,t.v,pv x]) (v:=v) (by kernel_rfl) (by kernel_rfl) rfl (by simp only[zan,qak];rfl) (by simp only[zal,qaj];rfl) ((s70_eq _ _ _ _ _ _).trans h1) h2 (by rw[Tm.v_eq];rfl)
  have hcell:qas (qag CP N E).E s l=some (VC c w dn tok y):=qaW hs
  have hst:=qrq (o:=0) (cs:=[i64 (.ofNat (c+1))]) (new:=VC (c+1) w dn tok y) hs rfl rfl
  have beg:s70 (qag CP N E) N (.ptr l 0) t.v (pv x) s=s70_5 (qag CP N E) N (.ptr l 0) (i64 (.ofNat c)) (u8 1) 0 t.c [sw x.sn,i64 x.top] Zt [] [] [] {s with heap:=(l,.cells (VC (c+1) w dn tok y))::H}:=by
   unfold s70
   generalize s70_5 (qag CP N E) N=G
   simp -implicitDefEqProofs only[pvc,qd4,zaH,ldP hcell,vc0,qaP (show c<9223372036854775807 by omega),cni,hst,qah,qad,qaz,zab,zaa,qbv]
  have hv0:Vs s tok y {s with heap:=(l,.cells (VC (c+1) w dn tok y))::H} tok y:=(Vs.refl hlg).heap _
  have rl:=qn2 (N:=N) (E:=E) (x:=x) (t:=t) (c:=c) (l:=l) (w:=w) (dn:=dn) (H:=H) (by omega) (fun i hi s=>hMk i hi E s) {s with heap:=(l,.cells (VC (c+1) w dn tok y))::H} tok y rfl hlg (by omega)
  have hki0:∀s1 tok1 y1,KI s.ntok s1 0 0 tok1 y1:=fun _ _ _ h=>by omega
  have hoL:=qnc x t c 0
  constructor
  ·intro hno
   rw[qk7] at hno⊢
   obtain⟨c22,s1,tok1,a1,a2,a3,a4⟩:=rl.1 (fun o ho=>hno o (List.mem_append_left _ ho))
   have hv1:=hv0.trans a4
   obtain⟨tk2,s3,tok3,d1,d2,d3,d4⟩:=qqs ih hKp htop hdk (by omega) t.ks [] [] 0 N 0 (c+1) dn 0 c22 [] s1 tok1 _ rfl rfl rfl (by omega) a2 (hki0 _ _ _) hv1 (by omega) (by rw[zax,zaY];omega) hmk (fun o ho=>hno o (List.mem_append_right _ ho))
   rw[show c+1+Tm.sizeL t.ks=c+t.size by omega,zaR,<-qfD] at d2
   rw[zaR,<-qfD] at d4
   refine⟨s3,tok3,call t _ s3 (beg.trans (a1.trans ?_)) (qgC t t.ks tk2 rfl rfl),d2,d3.trans a3,d4⟩
   rw[s70_4_lp]
   exact d1
  ·intro o ho hw
   rw[qk7,zaL] at ho
   have hw2:w.2=o.2.1:=by rw[<-hw]
   rcases ho with ho|ho
   ·have hpl:=qiD ho
    obtain⟨s1,tok1,y1,a1,a2,a3,a4,a5⟩:=rl.2 o ho hw
    have e0:(o.2.1-Int.ofNat c).toNat=0:=by rw[hpl];simp only[zaf];omega
    rw[e0]
    have e1:Tm.put1 o.2.2 0 t=o.2.2:=by unfold Tm.put1;rfl
    rw[e1]
    refine⟨s1,tok1,c+1,y1,call o.2.2 _ s1 (beg.trans a1) (qaj _),a2,a3,hv0.trans a4,by rw[hpl];simp only[zaf];omega,by omega,by omega⟩
   ·obtain⟨i,hi,hpl⟩:=qdi ho
    obtain⟨c22,s1,tok1,a1,a2,a3,a4⟩:=rl.1 (fun o' ho' he=>by
     have h1:=qiD ho'
     have:o'.2.1=w.2:=by rw[<-he]
     rw[hw2,h1,hpl] at this
     simp only[zaf] at this
     omega)
    have hv1:=hv0.trans a4
    obtain⟨tk2,s3,tok3,c3,y3,d1,d2,d3,d4,d5,d6,d7⟩:=qsw ih hKp htop hdk (by omega) t.ks [] [] 0 N 0 (c+1) dn 0 c22 [] s1 tok1 _ rfl rfl rfl (by omega) a2 (hki0 _ _ _) hv1 (by omega) (by rw[zax,zaY];omega) hmk o ho hw _ rfl
    rw[zax,zaY] at d7
    have e0:(o.2.1-Int.ofNat c).toNat=(o.2.1-Int.ofNat (c+1)).toNat+1:=by rw[hpl];simp only[zaf];omega
    rw[e0,Tm.put1_succ]
    refine⟨s3,tok3,c3,y3,call _ (.agg (oc t (qb8 (fun i=>Tm.cellsL (([]++Tm.putL o.2.2 (o.2.1-Int.ofNat (c+1)).toNat t.ks).take i)) tk2 ([]++Tm.putL o.2.2 (o.2.1-Int.ofNat (c+1)).toNat t.ks).length))) s3 (beg.trans (a1.trans ?_)) ?_,d2,d3.trans a3,d4,d5,by omega,by omega⟩
    ·rw[s70_4_lp]
     exact d1
    ·exact qgC (t.with (Tm.putL o.2.2 (o.2.1-Int.ofNat (c+1)).toNat t.ks)) (Tm.putL o.2.2 (o.2.1-Int.ofNat (c+1)).toNat t.ks) tk2 rfl rfl
end Go.AI.Tryz
namespace Go.AI.Tryz
theorem qd5 {a:Ar}{t:Tm}(h:qbx a t=0):qbU a=0/\t.size<=600:=by
 unfold qbx at h
 split at h
 ·rename_i h0;exact absurd h h0
 ·rename_i h0
  split at h
  ·omega
  ·exact⟨by simpa using h0,by omega⟩
theorem qt9 {a:Ar}{t:Tm}(h:qbx a t=0)(ok:t.Ok)(h1:a.ids.length<=100000):Rd (qaC a) t:=by
 obtain⟨h2,h3⟩:=qd5 h
 refine⟨qht h ok h1 (by omega),(qk3 h2).1,?_,?_,?_⟩
 ·simp only[qaC,zaY];exact Int.le_refl _
 ·show(0:Int)+_<=_;omega
 ·simp only[qaC,zaY];omega
theorem qne:∀(d:Nat) (t:Tm) (x:Sc),t.size<=d->Rd x t->∀p∈qbo t x,Rd p.1 p.2
 |0,t,_,h,_=>by have:=t.size_pos;omega
 |d+1,t,x,hd,h=>by
  intro p hp
  rw[qcV,zaE] at hp
  rcases hp with rfl|hp
  ·exact h
  ·have hk:∀(r done:List Tm) (j:Nat),t.ks=done++r→done.length=j→∀p∈qbd (fun j=>x.kid t j) j r,Rd p.1 p.2:=by
    intro r
    induction r with
    |nil=>intro done j _ _ p hp;simp[qbd] at hp
    |cons u r ih=>
     intro done j h1 h2 p hp
     have hu:t.ks[j]? =some u:=by rw[h1,zaA (by omega),h2];simp
     have hlt:=qa5 (zaQ hu)
     simp only[qbd,zaL] at hp
     rcases hp with hp|hp
     ·exact qne d u (x.kid t j) (by omega) (h.kid hu) p hp
     ·exact ih (done++[u]) (j+1) (by rw[h1];simp) (by simp[h2]) p hp
   exact hk t.ks [] 0 rfl rfl p hp
theorem qiE {a:Ar}{t:Tm}(h:qbx a t=0)(ok:t.Ok)(h1:a.ids.length<=100000):Ev fun N=>qrL (qbo t (qaC a)) N t.size:=by
 have hr:=qt9 h ok h1
 have hR:=qne t.size t (qaC a) (zao _) hr
 have h3:=(qd5 h).2
 refine qnd hR (Ev.all _ fun p hp=>?_) t.size (by omega)
 have h22:Ev fun N=>∀i∈List.range 22,∀E s,cl (qag CP N E) 121 [pv p.1,u8 (.ofNat (i+1)),p.2.v] s=some (qcN (qbm i p.1 p.2),s):=Ev.all _ fun i hi=>qvX (hR p hp) i (za8.1 hi)
 exact(h22.and (qt6 (hR p hp))).mono fun N ⟨g1,g2⟩=>⟨fun i hi=>g1 i (za8.2 hi),g2⟩
theorem qqu (a:Ar)(h1:a.ids.length<=1000000):PC CP 71 [a.v] (pv (qaC a)):=by
 have hf:=qm7 a h1
 rw[<-qiB] at hf
 refine PC.of2 (cf:=cf71) (np:=1) (args':=[a.v]) (by kernel_rfl) (by kernel_rfl) rfl rfl rfl (fun _=>rfl) (hf.mono fun N h E s=>⟨pv (qaC a),s,(s71_eq _ _ _ _).trans ?_,rfl⟩)
 have hl0:ldL [.p (.sl a.ids.length (qaQ Ty.cells a.ids)),bl a.root.cell,i64 a.root.n,bl a.jumps] 0 none=some (.p (.sl a.ids.length (qaQ Ty.cells a.ids))):=rfl
 have hb:∀l:List Sn,∀n:Int,bd [.sl 0 [] .full,i64 0] [(0,none,.c (sw l)),(1,none,.c (i64 n))]=some (.agg [sw l,i64 n]):=fun _ _=>rfl
 have ho:∀a b:zA,over [.sl 0 [] .full,i64 0] 0 [a,b]=some [a,b]:=fun _ _=>rfl
 have ht:(qaC a).top=Int.ofNat a.ids.length:=rfl
 unfold s71
 rw[pv,ht]
 simp only[qc3,qlb,h,hl0,hb,pvc,ho,qhz,zaa,qab,qbB]
abbrev qrM (a:Ar)(t:Tm):List Rw:=qeN (qf1 a t)
theorem qrN {l:List (Sc×Tm)}{c:Nat}{o:Of}(h:o∈qds qc2 (.ofNat c) l):1<=o.1:=by
 obtain⟨j,p,i,_,_,_,h2,_⟩:=qeF h
 rw[h2]
 simp only[zaf]
 omega
theorem qua (tok:Nat)(y:List Rw):qaF (qeM tok y)=qn8 y:=by cases y<;>rfl
theorem qub (a:Ar)(t:Tm)(h:qbx a t=0)(ok:t.Ok)(h1:a.ids.length<=100000):PC CP 47 [a.v,t.v] (qn8 (qrM a t)):=by
 have h3:=(qd5 h).2
 refine PC.of2 (cf:=cf47) (np:=2) (args':=[a.v,t.v]) (by kernel_rfl) (by kernel_rfl) rfl (by simp only[zan,qak];rfl) (by simp only[zal,qaj];rfl) (fun _=>rfl)
  (((qqu a (by omega)).and (qiE h ok h1)).mono fun N ⟨c71,hv⟩ E s=>?_)
 obtain⟨s1,tok,e1,e2,_,_⟩:=(hv t (qaC a) (zao _) (fun _ h=>h) E (qai s (.cells (VC 0 (0,0) false 0 []))) s.next s.heap 0 (0,0) false 0 [] rfl (fun h=>absurd rfl h) (by omega) (by simp only[zaC];omega)).1 (fun o ho he=>by
  have:=qrN ho
  rw[zaq] at he
  omega)
 have hc:qas (qag CP N E).E s1 s.next=some _:=qaW e2
 have hbd:bd [i64 0,u8 0,i64 0,bl false,.sl 0 [] .full] []=some (.agg (VC 0 (0,0) false 0 [])):=rfl
 have hcc:zA.cells (some 5) (.agg (VC 0 (0,0) false 0 []))=some (VC 0 (0,0) false 0 []):=rfl
 have haw:(VC 0 (0,0) false 0 []).all qaY=true:=rfl
 refine⟨qeM tok (qrM a t),s1,(s47_eq _ _ _ _ _).trans ?_,?_⟩
 ·unfold s47
  simp -implicitDefEqProofs only[qc3,qlb,qcg,hbd,hcc,haw,c71,e1,ldP hc,vc4,qah,zaa,qab,qa2,cnd]
  rfl
 ·exact qua tok (qrM a t)
def qh2 (a:Ar)(t:Tm)(w:Rw):Tm×Bool:=match qgm a t w with
 |some u=>(u,true)
 |none=>(t,false)
theorem qrO {a:Ar}{t:Tm}{w:Rw}(h:∀o∈qf1 a t,(o.1,o.2.1)≠w):qgm a t w=none:=by
 rw[qeG]
 cases hf:(qds (fun k=>decide (k=w.1)) 0 (qbo t (qaC a))).find? fun q=>decide (q.1=w.1)&&decide (q.2.1=w.2) with
 |none=>rfl
 |some q=>
  have h1:=List.mem_of_find?_eq_some hf
  have h2:=List.find?_some hf
  simp only[zag,decide_eq_true_eq] at h2
  rw[qfd,List.mem_filter] at h1
  exact absurd (by rw[h2.1,h2.2]) (h q h1.1)
theorem qn3 (b:Bool):qa4 (some [bl b]) (some [bl b])=true:=by
 simp only[qa4,qdA,qfR,zat]
theorem qnf (a:Ar)(t:Tm)(w:Rw)(h:qbx a t=0)(ok:t.Ok)(h1:a.ids.length<=100000):PC CP 49 [a.v,t.v,rv w] (.tuple [(qh2 a t w).1.v,bl (qh2 a t w).2]):=by
 have h3:=(qd5 h).2
 have herr:∀(u:Tm) (b:Bool),qaF (.tuple [u.v,bl b])=.tuple [u.v,bl b]:=fun u b=>by rw[Tm.v_eq];rfl
 have hpl:∀(lo:Nat) (u:Tm) (b:Bool),qeJ lo (.tuple [u.v,bl b])=true:=fun lo u b=>by rw[Tm.v_eq];rfl
 refine PC.of2 (cf:=cf49) (np:=3) (args':=[a.v,t.v,rv w]) (by kernel_rfl) (by kernel_rfl) rfl (by simp only[zan,qak];rfl) (by simp only[zal,qaj];rfl) (fun lo=>hpl lo _ _)
  (((qqu a (by omega)).and (qiE h ok h1)).mono fun N ⟨c71,hv⟩ E s=>?_)
 have hv:=hv t (qaC a) (zao _) (fun _ h=>h) E (qai s (.cells (VC 0 w false 0 []))) s.next s.heap 0 w false 0 [] rfl (fun h=>absurd rfl h) (by omega) (by simp only[zaC];omega)
 have hcw:zA.cells (some 2) (rv w)=some [u8 w.1,i64 w.2]:=rfl
 have hbd:bd [i64 0,u8 0,i64 0,bl false,.sl 0 [] .full] [(1,some 2,.c (rv w))]=some (.agg (VC 0 w false 0 [])):=rfl
 have hcc:zA.cells (some 5) (.agg (VC 0 w false 0 []))=some (VC 0 w false 0 []):=rfl
 have haw:(VC 0 w false 0 []).all qaY=true:=rfl
 have fin:∀(u:Tm) (b:Bool) (s1:ASt) (c:Nat) (tok:Nat) (y:List Rw),cl (qag CP N E) 70 [.ptr s.next 0,t.v,pv (qaC a)] (qai s (.cells (VC 0 w false 0 [])))=some (u.v,s1)->s1.heap=(s.next,.cells (VC c w b tok y))::s.heap->s49 (qag CP N E) N a.v t.v (rv w) s=some (.tuple [u.v,bl b],s1):=fun u b s1 c tok y e1 e2=>by
  have hc:qas (qag CP N E).E s1 s.next=some (VC c w b tok y):=qaW e2
  have hlf:loadFrom (qag CP N E).E .nil s1 (.ptr s.next 3) 1=some [bl b]:=by
   unfold loadFrom
   simp only[hc,zaa]
   rfl
  unfold s49
  simp -implicitDefEqProofs only[qc3,qlb,qcg,hcw,qhz,hbd,hcc,haw,c71,e1,ldP hc,vc3,hlf,qn3,zat,qah,qav,zaa,qab,qa2,cnd]
 by_cases hex:∃o∈qf1 a t,(o.1,o.2.1)=w
 ·obtain⟨o,ho,hw⟩:=hex
  obtain⟨s1,tok,c',y',e1,e2,_⟩:=hv.2 o ho hw
  have hd:qgm a t w=some (qhD o.2.2 o.2.1 t):=by rw[<-hw];exact qrD ho
  have hp:qhD o.2.2 o.2.1 t=Tm.put1 o.2.2 (o.2.1-Int.ofNat 0).toNat t:=by
   obtain⟨j,hj,hpl⟩:=qdi (c:=0) ho
   rw[qbN] at hj
   unfold qhD
   rw[hpl,if_pos ⟨by simp only[zaf];omega,by simp only[zaf];omega⟩]
   have e:Int.ofNat (0+j)-Int.ofNat 0=Int.ofNat (0+j):=by simp only[zaf];omega
   rw[e]
  have hG:qh2 a t w=(Tm.put1 o.2.2 (o.2.1-Int.ofNat 0).toNat t,true):=by unfold qh2;rw[hd,hp]
  rw[hG]
  exact⟨_,s1,(s49_eq _ _ _ _ _ _).trans (fin _ true s1 c' tok y' e1 e2),herr _ _⟩
 ·obtain⟨s1,tok,e1,e2,_⟩:=hv.1 (fun o ho he=>hex ⟨o,ho,he⟩)
  have hG:qh2 a t w=(t,false):=by unfold qh2;rw[qrO fun o ho he=>hex ⟨o,ho,he⟩]
  rw[hG]
  exact⟨_,s1,(s49_eq _ _ _ _ _ _).trans (fin _ false s1 _ tok _ e1 e2),herr _ _⟩
theorem qn4 (a:Ar)(t:Tm)(oa:a.Ok)(ok:t.Ok)(h1:a.ids.length<=100000)(hs:t.size<=100000):PC CP 28 [a.v,t.v] (.tuple [qn8 (qc7 a t).1,i64 (qc7 a t).2]):=by
 unfold qc7
 by_cases hc:qbx a t=0
 ·rw[if_pos hc]
  refine PC.of2 (cf:=cf28) (np:=2) (args':=[a.v,t.v]) (by kernel_rfl) (by kernel_rfl) rfl (by simp only[zan,qak];rfl) (by simp only[zal,qaj];rfl) (fun _=>rfl)
   (((qfC a t oa ok h1 hs).and (qub a t hc ok h1)).mono fun N ⟨c46,c47⟩ E s=>⟨.tuple [qn8 (qrM a t),i64 0],s,(s28_eq _ _ _ _ _).trans ?_,rfl⟩)
  unfold s28
  simp only[qc3,qlb,qcg,c46,c47,hc,qah,qad,qaU,decide_true,zak,qaa,cond_false,zab,zaa,qab]
 ·rw[if_neg hc]
  refine PC.of2 (cf:=cf28) (np:=2) (args':=[a.v,t.v]) (by kernel_rfl) (by kernel_rfl) rfl (by simp only[zan,qak];rfl) (by simp only[zal,qaj];rfl) (fun _=>rfl)
   ((qfC a t oa ok h1 hs).mono fun N c46 E s=>⟨.tuple [.sl 0 [] .full,i64 (qbx a t)],s,(s28_eq _ _ _ _ _).trans ?_,rfl⟩)
  unfold s28
  simp only[qc3,qlb,qcg,c46,hc,qah,qad,qaU,decide_false,zam,qaa,cond_true,zab,zaa,qab]
theorem qvZ (a:Ar)(t:Tm)(w:Rw)(oa:a.Ok)(ok:t.Ok)(h1:a.ids.length<=100000)(hs:t.size<=100000):PC CP 30 [a.v,t.v,rv w] (.tuple [(doF a t w).1.v,i64 (doF a t w).2]):=by
 have hcw:zA.cells (some 2) (rv w)=some [u8 w.1,i64 w.2]:=rfl
 unfold doF
 by_cases hc:qbx a t=0
 ·rw[if_pos hc]
  cases hd:qgm a t w with
  |none=>
   have hG:qh2 a t w=(t,false):=by unfold qh2;rw[hd]
   have hD:=qnf a t w hc ok h1
   rw[hG] at hD
   refine PC.of2 (cf:=cf30) (np:=3) (args':=[a.v,t.v,rv w]) (by kernel_rfl) (by kernel_rfl) rfl (by simp only[zan,qak];rfl) (by simp only[zal,qaj];rfl) (fun lo=>qnZ lo _ _)
    (((qfC a t oa ok h1 hs).and hD).mono fun N ⟨c46,c49⟩ E s=>⟨.tuple [zT,i64 7],s,(s30_eq _ _ _ _ _ _).trans ?_,rfl⟩)
   unfold s30
   simp -implicitDefEqProofs only[qc3,qlb,qcg,hcw,qhz,c46,c49,hc,bdZ,z5c,z5o,z5l,qah,qav,qad,qaU,decide_true,zak,zam,qaa,cond_true,cond_false,zab,zaa,qab,qan,qaw,qax,qam]
  |some u=>
   have hG:qh2 a t w=(u,true):=by unfold qh2;rw[hd]
   have hD:=qnf a t w hc ok h1
   rw[hG] at hD
   have hus:u.size<=1000000:=by
    rw[qeG,zad] at hd
    obtain⟨q,hq,rfl⟩:=hd
    have h2:=List.mem_of_find?_eq_some hq
    have h4:=List.find?_some hq
    simp only[zag,decide_eq_true_eq] at h4
    rw[<-h4.2]
    have:=qp2 (a:=a) (t:=t) (o:=q) ⟨hc,ok⟩ h1 hs h2
    have:=this.2
    omega
   refine PC.of2 (cf:=cf30) (np:=3) (args':=[a.v,t.v,rv w]) (by kernel_rfl) (by kernel_rfl) rfl (by simp only[zan,qak];rfl) (by simp only[zal,qaj];rfl) (fun lo=>qnZ lo _ _)
    (((qfC a t oa ok h1 hs).and (hD.and (qsa u hus))).mono fun N ⟨c46,c49,c15⟩ E s=>⟨.tuple [u.v,i64 0],s,(s30_eq _ _ _ _ _ _).trans ?_,qvH _ _⟩)
   unfold s30
   simp -implicitDefEqProofs only[qc3,qlb,qcg,hcw,qhz,c46,c49,c15,hc,qah,qav,qad,qaU,decide_true,zak,qaa,cond_false,zab,zaa,qab,qan,qaw,qax,qam]
 ·rw[if_neg hc]
  refine PC.of2 (cf:=cf30) (np:=3) (args':=[a.v,t.v,rv w]) (by kernel_rfl) (by kernel_rfl) rfl (by simp only[zan,qak];rfl) (by simp only[zal,qaj];rfl) (fun lo=>qnZ lo _ _)
   ((qfC a t oa ok h1 hs).mono fun N c46 E s=>⟨.tuple [zT,i64 (qbx a t)],s,(s30_eq _ _ _ _ _ _).trans ?_,rfl⟩)
  unfold s30
  simp -implicitDefEqProofs only[qc3,qlb,qcg,hcw,qhz,c46,hc,bdZ,z5c,z5o,z5l,qah,qad,qaU,decide_false,zam,qaa,cond_true,zab,zaa,qab]
end Go.AI.Tryz
namespace Go.AI.Tryz
theorem qxH:Tm.z.Ok:=.mk (by decide) (by decide) (by decide) (by decide) (by decide) (fun _ h=>by cases h)
theorem qv0 {a:Ar}{t:Tm}{w:Rw}(ok:t.Ok)(h1:a.ids.length<=100000)(hs:t.size<=100000):(doF a t w).1.Ok:=by
 unfold doF
 by_cases hc:qbx a t=0
 ·rw[if_pos hc]
  cases hd:qgm a t w with
  |none=>exact qxH
  |some u=>
   rw[qeG,zad] at hd
   obtain⟨q,hq,rfl⟩:=hd
   have h2:=List.mem_of_find?_eq_some hq
   have h4:=List.find?_some hq
   simp only[zag,decide_eq_true_eq] at h4
   rw[<-h4.2]
   exact(qp2 (a:=a) (t:=t) (o:=q) ⟨hc,ok⟩ h1 hs h2).1.ok
 ·rw[if_neg hc]
  exact qxH
theorem ql1 {a:Ar}{t:Tm}(hs:t.size<=100000):(qc7 a t).1.length<=100000000:=by
 unfold qc7
 split
 ·simp only[zaY]
  have:=qdS (qbo t (qaC a)) 0
  rw[qbN] at this
  have h2:(qf1 a t).length<=22*t.size:=this
  omega
 ·exact za3 _
theorem offers_ev (a:Ar)(t:Tm)(w:Rw)(oa:a.Ok)(ok:t.Ok):Ev fun n=>∀e,Lw n e->∃s',s6 e n a.v t.v (rv w) s00=some (bl true,s'):=by
 have hcw:zA.cells (some 2) (rv w)=some [u8 w.1,i64 w.2]:=rfl
 have hth:=qu2 a t oa ok
 cases hb:qnH a t with
 |false=>
  rw[hb] at hth
  refine hth.mono fun n h e he=>⟨s00,?_⟩
  have h:=he.c (by decide) h
  have h12:=he.a
  unfold s6
  simp -implicitDefEqProofs only[qc3,qlb,qcg,hcw,h,h12,qah,zam,qaa,cond_true,qal,zaa,qab,qam]
 |true=>
  rw[hb] at hth
  obtain⟨h1,h2,h3⟩:=qn0 hb
  have hA:=qs6 a (by omega) (fun t ht=>by have:=h2 t ht;omega)
  have hT:=qsa t (by omega)
  have h27:=qnT a t oa ok (by omega) (by omega)
  have h28:=qn4 a t oa ok (by omega) (by omega)
  have h29:=do_c a t w oa ok (by omega) (by omega)
  have h30:=qvZ a t w oa ok (by omega) (by omega)
  have hl:=ql1 (a:=a) (t:=t) (by omega)
  have h20:=qp3 (qc7 a t).1 (qc7 a t).1 hl hl
  have h19:=qo9 (doF a t w).1 (doF a t w).1 (qv0 ok (by omega) (by omega))
  refine(((hth.and (hA.and hT)).and (h27.and h28)).and ((h29.and h30).and (h20.and h19))).mono fun n ⟨⟨⟨c11,c14,c15⟩,c27,c28⟩,⟨c29,c30⟩,c20,c19⟩ e he=>⟨s00,?_⟩
  have c11:=he.c (by decide) c11
  have c14:=he.c (by decide) c14
  have c15:=he.c (by decide) c15
  have c27:=he.c (by decide) c27
  have c28:=he.c (by decide) c28
  have c29:=he.c (by decide) c29
  have c30:=he.c (by decide) c30
  have c20:=he.c (by decide) c20
  have c19:=he.c (by decide) c19
  have h12:=he.a
  rw[decide_eq_true rfl] at c20 c19
  unfold s6 s6_0
  generalize (qc7 a t).1=L at c27 c28 c20
  generalize (qc7 a t).2=er at c27 c28
  generalize (doF a t w).1=u at c29 c30 c19
  generalize (doF a t w).2=er2 at c29 c30
  simp -implicitDefEqProofs only[qc3,qlb,qcg,hcw,qhz,c11,c14,c15,c27,c28,c29,c30,c20,c19,h12,qah,qav,qad,qaf,decide_true,zak,qaa,cond_true,cond_false,qal,zab,zaa,qab,qan,qaw,qax,qam]
end Go.AI.Tryz
namespace Go.AI.Tryz
open Go.Proofs
theorem has_rw {n:Nat}{pcs:List zP}(h:HasT Go.Proofs.Tryz.prog n 46 pcs):∃w:Rw,rwC w=pcs/\(0<=w.1/\w.1<256)/\(-9223372036854775808<=w.2/\w.2<=9223372036854775807):=by
 obtain⟨m,ls,rfl,rfl,hl,hf⟩:=h.inv_struct Go.Proofs.Tryz.underlying46
 obtain⟨a,b,rfl⟩:=qjY hl
 obtain⟨k,rfl,wk⟩:=(hf 0 a _ rfl rfl).inv_int Go.Proofs.Tryz.underlying5
 obtain⟨x,rfl,wx⟩:=(hf 1 b _ rfl rfl).inv_int Go.Proofs.Tryz.underlying3
 exact⟨(k,x),rfl,wf8 wk,qvJ wx⟩
def quc:List TypeId:=[3,5,30,33,46]
theorem m46:46∈quc:=by simp[quc]
theorem lawTr_ok:qjc Go.Proofs.Tryz.prog quc=true:=by kernel_rfl
end Go.AI.Tryz
