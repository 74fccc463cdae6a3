/- Part 5: what the functions of the program compute, function by function. No condition. -/
import Derived.Test.YtgecccghlgpmjaaGreatPd
set_option linter.unusedVariables false
set_option linter.unusedSimpArgs false
open Array renaming getElem?_toList→zaI,length_toList→zba
open Bool renaming and_eq_true→zag,false_eq_true→zai,not_true→zak,not_false→zal,and_self→zat,false_and→zau,true_and→zax,not_eq_true→zaR,and_false→zaS,or_eq_false_iff→zaU,not_eq_true'→za0,or_eq_true→za4,false_or→za7,and_true→za8,true_or→zbk
open Int renaming ofNat_eq_natCast→zaf,reduceEq→zaj
open List renaming getElem?_eq_getElem→zah,map_cons→zam,getElem?_eq_some_iff→zao,all_cons→zap,length_cons→zar,getElem?_cons_zero→zas,mem_cons_self→zav,mem_cons_of_mem→zaw,length_append→zay,drop_eq_getElem_cons→zaz,getElem?_append_right→zaA,length_nil→zaC,mem_cons→zaE,not_mem_nil→zaH,all_eq_true→zaJ,getElem?_cons_succ→zaK,getElem?_append_left→zaL,mem_of_getElem?→zaN,mem_append→zaO,cons_append→zaP,nil_append→zaQ,append_assoc→zaT,mem_singleton→zaV,length_eq_zero_iff→zaX,length_map→za1,getElem_mem→za5,mem_range→za9,getElem?_map→zbb,append_nil→zbg,headD_cons→zbh,map_nil→zbm
open Nat renaming le_refl→zan,zero_add→zaF,lt_irrefl→zaZ,zero_le→za3,beq_refl→za6,le_trans→zbf,lt_or_ge→zbi,add_zero→zbj
open Option renaming bind_some→zaa,map_some→zab,map_eq_some_iff→zad,getD_some→zaB,isSome_none→zaD,getD_none→zaG,isSome_some→zbe
open Option.some renaming injEq→zac
open Prod.mk renaming injEq→zaq
namespace Go.AI
theorem qru {s:ASt}{pre H:qaU}{l o:Nat}{zs cs new:List zA}(h:s.heap=pre++(l,.cells zs)::H)(hp:∀v∈pre,v.1≠l)(ha:cs.all qaY=true)(ho:over zs o cs=some new):stH s (.ptr l o) cs=some {s with heap:=pre++(l,.cells new)::H}:=by
 unfold stH qbL
 have hbe:Nat.beq l l=true:=qaD rfl
 simp only[h,qdP hp,qdw hp,qar,qaK,hbe,cond_true,ha,ho,zaa,zab]
theorem qgu {E:qaU}{s:ASt}{pre H:qaU}{l:Nat}{cs:List zA}(h:s.heap=pre++(l,.cells cs)::H)(hp:∀v∈pre,v.1≠l):qas E s l=some cs:=by
 unfold qas
 have hbe:Nat.beq l l=true:=qaD rfl
 simp only[h,qdP hp,qar,hbe,cond_true]
end Go.AI
namespace Go.AI.Tryz
theorem qsk (a:Ar)(t:Tm)(h1:a.ids.length<=100000):PC CP 65 [a.v,t.v] (vw (qaE a) t).v:=by
 refine PC.of2 (cf:=cf65) (np:=2) (args':=[a.v,t.v]) (by kernel_rfl) (by kernel_rfl) rfl (by simp only[zap,qal];rfl) (by simp only[zam,qai];rfl) (fun _=>rfl) ((Ev.ge (a.ids.length+1)).mono fun n hn E s=>?_)
 let sz:List Int:=a.ids.map fun t=>t.res.n
 let f:Nat->List zP:=fun j=>qaQ qcT (sz.take j)
 have hszl:sz.length=a.ids.length:=by simp only[sz,za1]
 let fin:zA:=.agg [u8 t.k,i64 t.n,i64 t.m,i64 t.i,kv t.ks,qb9 f s.ntok a.ids.length,i64 (.ofNat a.ids.length)]
 suffices ∃s',s65 (qag CP n E) n a.v t.v s=some (fin,s') by
  obtain⟨s',e⟩:=this
  refine⟨fin,s',(s65_eq _ _ _ _ _).trans e,?_⟩
  have he1:qcx (qb9 f s.ntok a.ids.length)=.p (.sl a.ids.length (f a.ids.length)):=qdc f _ _ rfl
  have he2:(vw (qaE a) t).sz=sz:=by
   simp only[vw,qaE,sz,List.map_map]
   rfl
  have he3:f a.ids.length=qaQ qcT sz:=by
   show qaQ qcT (sz.take a.ids.length)=_
   rw[<-hszl,List.take_length]
  show zA.agg [_,_,_,_,_,qcx (qb9 f s.ntok a.ids.length),_]=zA.agg [_,_,_,_,_,iv (vw (qaE a) t).sz,_]
  rw[he1,he2,he3,iv,hszl]
  rfl
 have hav:zA.cells (some 4) a.v=some [.p (.sl a.ids.length (qaQ Ty.cells a.ids)),bl a.root.cell,i64 a.root.n,bl a.jumps]:=rfl
 have hbd:bd [u8 0,i64 0,i64 0,i64 0,.sl 0 [] .full,.sl 0 [] .full,i64 0] [(0,some 5,.c t.v),(6,none,.c (i64 (.ofNat a.ids.length)))]=some (.agg [u8 t.k,i64 t.n,i64 t.m,i64 t.i,kv t.ks,.sl 0 [] .full,i64 (.ofNat a.ids.length)]):=by rw[Tm.v_eq];rfl
 unfold s65
 simp only[hav,hbd,qbR,qoY,qoZ,qah,qaS,zaa,qbo]
 unfold s65_0
 generalize hF:(fun(h21:zA->Nat->List zA->List zA->List zA->List zA->List zA->ASt->Res) (x13:zA) (g14:Nat) (c15 c16 c17 c18 c19:List zA) (s20:ASt)=>_)=F
 have key:∀k (j g:Nat) (c:List zA),j<=a.ids.length->a.ids.length-j<k->∃s',lp (fun _ _ _ _ _ _ _ _=>none) F k (i64 (.ofNat j)) g [.p (.sl a.ids.length (qaQ Ty.cells a.ids)),bl a.root.cell,i64 a.root.n,bl a.jumps] t.c [u8 0,i64 0,i64 0,i64 0,.sl 0 [] .full,.sl 0 [] .full,i64 0]
   [u8 t.k,i64 t.n,i64 t.m,i64 t.i,kv t.ks,qb9 f s.ntok j,i64 (.ofNat a.ids.length)] c (qc5 s 1 j)=some (fin,s'):=by
  intro k
  induction k with
  |zero=>intro j g c _ h;omega
  |succ k ih=>
   intro j g c hj hk
   rcases zbi j a.ids.length with h|h
   ·have hkj:a.ids[j]? =some a.ids[j]:=zah h
    have hld:∀s,ldH (qag CP n E) s (.elem (qaQ Ty.cells a.ids) (j*3)) (some 3)=some a.ids[j].v:=fun s=>qdr (c:=Ty.cells) (sz:=3) (fun _=>rfl) _ s hkj
    have hsj:j<sz.length:=by rw[hszl];exact h
    have hszj:sz[j]=a.ids[j].res.n:=by simp only[sz,List.getElem_map]
    have hap:=qfp (qag CP n E) (sz:=1) (b:=8) (f:=f) (y:=.sl 1 (qcT a.ids[j].res.n) .full) s j rfl rfl (by omega) (by
     have:=qbZ (c:=qcT) hsj
     rw[hszj] at this
     exact this)
    have hms:ms 1 [.int .i64 0] [(0,none,.c (i64 a.ids[j].res.n))]=some (.sl 1 (qcT a.ids[j].res.n) .full):=rfl
    have hcv:zA.cells none (qb9 f s.ntok (j+1))=some [qb9 f s.ntok (j+1)]:=rfl
    have hl5:∀a b c d e f g:zA,ldL [a,b,c,d,e,f,g] 5 none=some f:=fun _ _ _ _ _ _ _=>rfl
    have ho5:∀a b c d e f g h:zA,over [a,b,c,d,e,f,g] 5 [h]=some [a,b,c,d,e,h,g]:=fun _ _ _ _ _ _ _ _=>rfl
    obtain⟨s',e⟩:=ih (j+1) (g+1) [.p (.sl a.ids[j].ps.length (qaQ Bs.cells a.ids[j].ps)),bl a.ids[j].res.cell,i64 a.ids[j].res.n] (by omega) (by omega)
    refine⟨s',?_⟩
    rw[qa5]
    generalize lp _ F k=L at e⊢
    subst hF
    simp only[of_lt.2 h,qbV h,hld,Ty.v_cells3,qly,za6,hl5,qsZ,hms,hap,hcv,ho5,qaO (show j<9223372036854775807 by omega),qad,qap,qay,decide_true,qaa,cond_true,zab,zaa,qab,cnd]
    exact e
   ·have:j=a.ids.length:=by omega
    subst this
    have h3:¬(Int.ofNat a.ids.length<Int.ofNat a.ids.length):=fun h=>zaZ _ (of_lt.1 h)
    refine⟨qc5 s 1 a.ids.length,?_⟩
    rw[qa5]
    generalize lp _ F k=L
    subst hF
    simp only[h3,quW,qoY,qoZ,qad,qap,qay,decide_false,qaa,cond_false,zab,zaa,cnd]
    rfl
 obtain⟨s',e⟩:=key n 0 0 [] (za3 _) (by omega)
 exact⟨s',e⟩
theorem qpF (a:Ar)(t:Tm)(oa:a.Ok)(ok:t.Ok)(h1:a.ids.length<=100000)(hs:t.size<=100000):PC CP 40 [a.v,t.v] (.tuple [(vw (qaE a) t).v,i64 (qbW a t)]):=by
 refine PC.of2 (cf:=cf40) (np:=2) (args':=[a.v,t.v]) (by kernel_rfl) (by kernel_rfl) rfl (by simp only[zap,qal];rfl) (by simp only[zam,qai];rfl) (fun _=>rfl) (((qsk a t h1).and (qtc a t oa ok h1 hs)).mono fun n ⟨h,h'⟩ E s=>⟨.tuple [(vw (qaE a) t).v,i64 (qbW a t)],s,(s40_eq _ _ _ _ _).trans ?_,rfl⟩)
 have hav:zA.cells (some 4) a.v=some [.p (.sl a.ids.length (qaQ Ty.cells a.ids)),bl a.root.cell,i64 a.root.n,bl a.jumps]:=rfl
 have hal:ldL [.p (.sl a.ids.length (qaQ Ty.cells a.ids)),bl a.root.cell,i64 a.root.n,bl a.jumps] 0 (some 4)=some a.v:=rfl
 unfold s40
 simp only[hav,hal,h,h',qah,qaS,qaH,qch,qkJ,zaa,qab]
theorem qjq {a:Ar}{t:Tm}(h:qbW a t=0)(ok:t.Ok)(h1:a.ids.length<=100000)(hs:t.size<=100000):Nd (qaE a) t:=by
 unfold qbW at h
 split at h
 ·rename_i h0;exact absurd h h0
 ·rename_i h0
  have h0:qbS a=0:=by simpa using h0
  split at h
  ·omega
  ·split at h
   ·rename_i hA
    refine⟨.inr ⟨a.root,hA⟩,⟨by simp only[qaE,za1];omega,by simp only[qaE];omega,by simp only[qaE];omega⟩,ok,fun e he=>?_⟩
    simp only[qaE,List.mem_map] at he
    obtain⟨ty,hty,rfl⟩:=he
    have:qco ty=true:=by
     unfold qbS at h0
     split at h0
     ·omega
     ·split at h0
      ·omega
      ·rename_i h2
       simp only[zaR,zaU] at h2
       have:=List.any_eq_false.1 h2.2 ty hty
       simpa using this
    simp only[qco,zag,qbh,decide_eq_true_eq] at this
    exact this.1
   ·omega
end Go.AI.Tryz
namespace Go.AI.Tryz
abbrev Rw:=Int×Int
def rwC (p:Rw):List zP:=[.int .u8 p.1,.int .i64 p.2]
def qrv (tok:Nat):List Rw->zA
 |[]=> .sl 0 [] .full
 |a::r=> .sl (r.length+1) (qaQ rwC (a::r)) (.own tok)
abbrev logP (l:List Rw):zA:=.p (.sl l.length (qaQ rwC l))
theorem qpG (tok:Nat)(y:List Rw):zA.cells none (qrv tok y)=some [qrv tok y]:=by cases y<;>rfl
theorem qrw (tok:Nat)(y:List Rw):[qrv tok y].all qaY=true:=by cases y<;>rfl
def qdp:Int->Bool:=fun _=>true
def qpH (a:Ar)(t:Tm):List Of:=qdx qdp 0 (qbp t (qaE a))
abbrev K27:=Tr zA×Tr (Nat×List zA)×Nat×qaU
theorem qcf {E H:qaU}{l m:Nat}{o:zH}(h:m≠l):qdl E ((m,o)::H) l=qdl E H l:=by
 unfold qdl
 exact qbB rfl h
theorem qhr {E H:qaU}{l:Nat}{cs:List zA}:qdl E ((l,.cells cs)::H) l=some cs:=qaX (s:=⟨0,(l,.cells cs)::H,0,[]⟩) rfl
end Go.AI.Tryz
namespace Go.AI
mutual
def Tm.put1 (u:Tm):Nat->Tm->Tm
 |0,_=>u
 |j+1,.mk k n m i ks=> .mk k n m i (Tm.putL u j ks)
def Tm.putL (u:Tm):Nat->List Tm->List Tm
 |_,[]=>[]
 |j,k::r=>if j<k.size then Tm.put1 u j k::r else k::Tm.putL u (j-k.size) r
end
theorem Tm.put1_succ (u t:Tm)(j:Nat):Tm.put1 u (j+1) t=t.with (Tm.putL u j t.ks):=by
 cases t;rw[Tm.put1];rfl
def qdQ (a:Int)(u:Tm):Int->Tm->Int->Int×(Tm×Bool):=fun c t _=>(qbb .i64 (c+1),if qbb .i64 (qbb .i64 (c+1)-1)=a then(u,false) else(t,true))
theorem qmV {a:Int}{u:Tm}{c:Nat}(h:c<=1000000000)(t:Tm)(l:Int):qdQ a u (.ofNat c) t l=(.ofNat (c+1),if Int.ofNat c=a then(u,false) else(t,true)):=by
 have h1:qbb .i64 (Int.ofNat c+1)=.ofNat (c+1):=qbt (by simp only[zaf];omega) (by simp only[zaf];omega)
 have h2:qbb .i64 (Int.ofNat (c+1)-1)=.ofNat c:=by
  have:Int.ofNat (c+1)-1=Int.ofNat c:=by simp only[zaf];omega
  rw[this]
  exact qbt (by simp only[zaf];omega) (by simp only[zaf];omega)
 unfold qdQ
 rw[h1,h2]
def PutR (a c:Nat)(u:Tm)(sz:Nat){α:Type}(t:α)(put:Nat->α)(r:Int×α):Prop:=
 if c<=a/\a<c+sz then∃c':Nat,r=(.ofNat c',put (a-c))/\a<c'/\c'<=c+sz else r=(.ofNat (c+sz),t)
theorem PutR.inn {a c:Nat}{u:Tm}{sz:Nat}{α:Type}{t:α}{put:Nat->α}{r:Int×α}(h:c<=a/\a<c+sz):PutR a c u sz t put r↔∃c':Nat,r=(.ofNat c',put (a-c))/\a<c'/\c'<=c+sz:=by
 unfold PutR;rw[if_pos h]
theorem PutR.out {a c:Nat}{u:Tm}{sz:Nat}{α:Type}{t:α}{put:Nat->α}{r:Int×α}(h:¬(c<=a/\a<c+sz)):PutR a c u sz t put r↔r=(.ofNat (c+sz),t):=by
 unfold PutR;rw[if_neg h]
theorem Tm.with_ks (t:Tm):t.with t.ks=t:=by cases t;rfl
theorem qmW (a:Nat)(u:Tm):∀(d c:Nat) (t:Tm) (l:Int),t.size<=d->c+t.size<=1000000000->PutR a c u t.size t (fun j=>Tm.put1 u j t) (qc2 (qdQ (.ofNat a) u) d (.ofNat c) t l)
 |0,c,t,l,h,_=>by have:=Tm.size_pos t;omega
 |d+1,c,t,l,h,hc=>by
  have hk:∀(lab:Bool) (ks:List Tm) (j c:Nat),(∀u∈ks,u.size<=d)->c+Tm.sizeL ks<=1000000000->PutR a c u (Tm.sizeL ks) ks (fun j=>Tm.putL u j ks) (qfz (qc2 (qdQ (.ofNat a) u) d) lab l j (.ofNat c) ks):=by
   intro lab ks
   induction ks with
   |nil=>intro j c _ _;rw[PutR.out (by simp only[Tm.sizeL];omega)];rfl
   |cons w r ih=>
    intro j c hu hc
    simp only[Tm.sizeL] at hc
    have h1:=qmW a u d c w (if lab&&decide (j=0) then l+1 else l) (hu w (zav ..)) (by omega)
    have ih:=fun c' hc'=>ih (j+1) c' (fun v hv=>hu v (zaw _ hv)) hc'
    simp only[qfz,Tm.sizeL,Tm.putL]
    by_cases hin:c<=a/\a<c+w.size
    ·rw[PutR.inn hin] at h1
     obtain⟨c',e,h3,h4⟩:=h1
     have ih:=ih c' (by omega)
     rw[PutR.out (by omega)] at ih
     rw[e]
     simp only
     rw[ih,PutR.inn (by omega)]
     refine⟨c'+Tm.sizeL r,?_,by omega,by omega⟩
     rw[if_pos (by omega)]
    ·rw[PutR.out hin] at h1
     rw[h1]
     simp only
     have ih:=ih (c+w.size) (by omega)
     by_cases hin2:c+w.size<=a/\a<c+w.size+Tm.sizeL r
     ·rw[PutR.inn hin2] at ih
      obtain⟨c',e,h3,h4⟩:=ih
      rw[e,PutR.inn (by omega)]
      refine⟨c',?_,h3,by omega⟩
      rw[if_neg (by omega)]
      have:a-c-w.size=a-(c+w.size):=by omega
      rw[this]
     ·rw[PutR.out hin2] at ih
      rw[ih,PutR.out (by omega)]
      have:c+w.size+Tm.sizeL r=c+(w.size+Tm.sizeL r):=by omega
      rw[this]
  have hsz:=Tm.size_ks t
  have hp:=Tm.size_pos t
  unfold qc2
  rw[qmV (by omega)]
  by_cases ha:c=a
  ·subst ha
   rw[if_pos rfl]
   rw[PutR.inn (by omega)]
   simp only[zai,if_false]
   refine⟨c+1,?_,by omega,by omega⟩
   rw[Nat.sub_self,Tm.put1]
  ·rw[if_neg (fun h=>ha (Int.ofNat.inj h))]
   simp only[if_true]
   have:=hk (decide (t.k=11)) t.ks 0 (c+1) (fun v hv=>by have:=Tm.sizeL_mem hv;omega) (by omega)
   by_cases hin:c+1<=a/\a<c+1+Tm.sizeL t.ks
   ·rw[PutR.inn hin] at this
    obtain⟨c',e,h3,h4⟩:=this
    rw[e,PutR.inn (by omega)]
    refine⟨c',?_,h3,by omega⟩
    simp only
    have:a-c=(a-(c+1))+1:=by omega
    rw[this,Tm.put1_succ]
   ·rw[PutR.out hin] at this
    rw[this,PutR.out (by omega)]
    simp only
    have:c+1+Tm.sizeL t.ks=c+t.size:=by omega
    rw[this,Tm.with_ks]
end Go.AI
namespace Go.AI.Tryz
def RP (a:Int)(u:Tm)(q:Nat×qaU)(c:Int)(_:qaU)(s:ASt):Prop:=s.heap=(q.1+2,.cells [i64 c])::(q.1+1,.cells u.c)::(q.1,.cells [i64 a])::q.2
end Go.AI.Tryz
namespace Go.AI.Tryz
def Lk (x:Sc)(t:Tm)(y:Sc)(t':Tm):Prop:=szF x t=szF y t'/\∀b,qds szF x t b=qds szF y t' b
def LkK (sx sy:Nat->Sc):Nat->List Tm->List Tm->Prop
 |_,[],[]=>True
 |j,u::r,w::q=>Lk (sx j) u (sy j) w/\LkK sx sy (j+1) r q
 |_,_,_=>False
theorem qmX {x:Sc}{t:Tm}(h:t.k≠16)(h2:t.k≠17)(b:Bs):qds szF x t b=(!b.cell&&is2 (szF x t) b.n):=by
 unfold qds
 rw[if_neg h,if_neg h2]
 cases b.cell<;>simp
theorem qpI {x:Sc}(i:Int)(b:Bs):qds szF x (.cel i) b=(b.cell&&(match x.get i with|some e=>e.ty.res.cell&&decide (e.ty.res.n=b.n)|none=>false)):=by
 unfold qds
 rw[qc0 (.cel i)]
 cases b.cell with
 |true=>simp only[if_true,zax,Tm.k_mk,Tm.i_mk];rfl
 |false=>
  simp only[zai,if_false,qeK,zau]
theorem qlP {x:Sc}(u w:Tm)(b:Bs):qds szF x (.obj u w) b=(b.cell&&(is2 (szF x u) b.n&&is2 (szF (x.with ⟨⟨[],⟨false,b.n⟩⟩,true⟩) w) 1)):=by
 unfold qds
 rw[qc0 (.obj u w)]
 cases b.cell with
 |true=>simp only[if_true,zax,Tm.k_mk,Tm.ks_mk,zaj,if_false]
 |false=>
  simp only[zai,if_false,qdM,zau]
theorem Lk.of_sz {x y:Sc}{t t':Tm}(h:szF x t=szF y t')(h1:t.k≠16/\t.k≠17)(h2:t'.k≠16/\t'.k≠17):Lk x t y t':=by
 refine⟨h,fun b=>?_⟩
 rw[qmX h1.1 h1.2,qmX h2.1 h2.2,h]
theorem quj {x:Sc}{t:Tm}(h:(szF x t).2=true):t.k≠16/\t.k≠17:=by
 cases qda h with
 |cel i=>rw[qeK] at h;cases h
 |obj u w=>rw[qdM] at h;cases h
 |_=>exact⟨by simp[Tm.k],by simp[Tm.k]⟩
theorem Lk.of_ok {x y:Sc}{t t':Tm}(h:szF x t=szF y t')(h1:(szF x t).2=true):Lk x t y t':=Lk.of_sz h (quj h1) (quj (by rw[<-h];exact h1))
theorem LkK.args {x y:Sc}:∀{ks ks':List Tm} (j:Nat) {ps:List Bs},LkK (fun _=>x) (fun _=>y) j ks ks'->qbu (qds szF x) ks ps=qbu (qds szF y) ks' ps
 |[],[],_,ps,_=>by cases ps<;>rfl
 |u::r,w::q,j,ps,h=>by
  unfold LkK at h
  cases ps with
  |nil=>rfl
  |cons b ps=>
   simp only[qbu,h.1.2 b]
   rw[LkK.args (j+1) h.2]
 |[],_::_,_,_,h=>h.elim
 |_::_,[],_,_,h=>h.elim
theorem Lk.node {x y:Sc}{t t':Tm}(hs:Sh t)(hs':Sh t')(hk:t'.k=t.k)(hm:t'.m=t.m)(hn:t.k≠12->t'.n=t.n)(h12:t.k=12->qbi t.n x.size=qbi t'.n y.size)(hi:x.get t.i=y.get t'.i)
  (h18:t.k=18->decide (x.top<t.i)=decide (y.top<t'.i))(hks:LkK (x.kid t) (y.kid t') 0 t.ks t'.ks):Lk x t y t':=by
 cases hs<;>cases hs'<;>first|(exfalso;revert hk;simp only[Tm.k_mk,zaj,imp_self];done)|skip
 case num.num n m n' m'=>
  have e1:n'=n:=hn (by simp[Tm.k])
  have e2:m'=m:=hm
  subst e1 e2
  exact Lk.of_sz (by rw[qdv,qdv]) (by simp[Tm.k]) (by simp[Tm.k])
 case use.use i ks i' ks'=>
  have e:x.get i=y.get i':=hi
  have hks:LkK (fun _=>x) (fun _=>y) 0 ks ks':=hks
  refine Lk.of_sz ?_ (by simp[Tm.k]) (by simp[Tm.k])
  rw[qf9,qf9,e,hks.args]
 case get.get i i'=>
  have e:x.get i=y.get i':=hi
  refine Lk.of_sz ?_ (by simp[Tm.k]) (by simp[Tm.k])
  rw[qhj,qhj,e]
 case put.put i u i' u'=>
  have e:x.get i=y.get i':=hi
  have h1:szF x u=szF y u':=hks.1.1
  refine Lk.of_sz ?_ (by simp[Tm.k]) (by simp[Tm.k])
  rw[qeI,qeI,e,h1]
 case op.op n m u w n' m' u' w'=>
  have e1:n'=n:=hn (by simp[Tm.k])
  have e2:m'=m:=hm
  subst e1 e2
  have h1:szF x u=szF y u':=hks.1.1
  have h2:szF x w=szF y w':=hks.2.1.1
  refine Lk.of_sz ?_ (by simp[Tm.k]) (by simp[Tm.k])
  rw[qeE,qeE,h1,h2]
 case az.az n u n' u'=>
  have e1:n'=n:=hn (by simp[Tm.k])
  subst e1
  have h1:szF x u=szF y u':=hks.1.1
  refine Lk.of_sz ?_ (by simp[Tm.k]) (by simp[Tm.k])
  rw[qeF,qeF,h1]
 case seq.seq u w u' w'=>
  have h1:szF x u=szF y u':=hks.1.1
  have h2:szF x w=szF y w':=hks.2.1.1
  refine Lk.of_sz ?_ (by simp[Tm.k]) (by simp[Tm.k])
  rw[qbY,qbY,h1,h2]
 case ite.ite c u w c' u' w'=>
  have h0:szF x c=szF y c':=hks.1.1
  have h1:szF x u=szF y u':=hks.2.1.1
  have h2:szF x w=szF y w':=hks.2.2.1.1
  refine Lk.of_sz ?_ (by simp[Tm.k]) (by simp[Tm.k])
  rw[qcv,qcv,h0,h1,h2]
 case whl.whl u w u' w'=>
  have h1:szF x u=szF y u':=hks.1.1
  have h2:szF x w=szF y w':=hks.2.1.1
  refine Lk.of_sz ?_ (by simp[Tm.k]) (by simp[Tm.k])
  rw[qfs,qfs,h1,h2]
 case new.new n m u n' m' u'=>
  have e1:n'=n:=hn (by simp[Tm.k])
  have e2:m'=m:=hm
  subst e1 e2
  have h1:szF (x.with ⟨⟨[],⟨true,n'⟩⟩,false⟩) u=szF (y.with ⟨⟨[],⟨true,n'⟩⟩,false⟩) u':=hks.1.1
  refine Lk.of_sz ?_ (by simp[Tm.k]) (by simp[Tm.k])
  rw[qeJ,qeJ,h1]
 case lbl.lbl u w u' w'=>
  have h1:szF {x with size:=x.size+1} u=szF {y with size:=y.size+1} u':=hks.1.1
  have h2:szF x w=szF y w':=hks.2.1.1
  refine Lk.of_sz ?_ (by simp[Tm.k]) (by simp[Tm.k])
  rw[qem,qem,h1,h2]
 case jmp.jmp n n'=>
  refine Lk.of_sz ?_ (by simp[Tm.k]) (by simp[Tm.k])
  rw[qit,qit]
  exact congrArg _ (h12 rfl)
 case cho.cho u w u' w'=>
  have h1:szF x u=szF y u':=hks.1.1
  have h2:szF x w=szF y w':=hks.2.1.1
  refine Lk.of_sz ?_ (by simp[Tm.k]) (by simp[Tm.k])
  rw[qen,qen,h1,h2]
 case hang.hang=>exact Lk.of_sz (by rw[qhl,qhl]) (by simp[Tm.k]) (by simp[Tm.k])
 case val.val i i'=>
  have e:x.get i=y.get i':=hi
  refine Lk.of_sz ?_ (by simp[Tm.k]) (by simp[Tm.k])
  rw[qhk,qhk,e]
 case cel.cel i i'=>
  have e:x.get i=y.get i':=hi
  refine⟨by rw[qeK,qeK],fun b=>?_⟩
  rw[qpI,qpI,e]
 case obj.obj u w u' w'=>
  have h1:szF x u=szF y u':=hks.1.1
  have h2:szF (x.with ⟨⟨[],⟨false,(szF x u).1⟩⟩,true⟩) w=szF (y.with ⟨⟨[],⟨false,(szF y u').1⟩⟩,true⟩) w':=hks.2.1.1
  refine⟨by rw[qdM,qdM],fun b=>?_⟩
  rw[qlP,qlP]
  by_cases hb:(szF x u).1=b.n
  ·rw[←h1,hb] at h2
   rw[h1,h2]
  ·have:is2 (szF x u) b.n=false:=by simp only[is2,hb,decide_false,zaS]
   rw[<-h1,this]
   simp only[zau]
 case ntc.ntc n i u n' i' u'=>
  have e1:n'=n:=hn (by simp[Tm.k])
  subst e1
  have e:x.get i=y.get i':=hi
  have h1:szF x u=szF y u':=hks.1.1
  have h3:decide (x.top<i)=decide (y.top<i'):=h18 rfl
  refine Lk.of_sz ?_ (by simp[Tm.k]) (by simp[Tm.k])
  rw[qeo,qeo,h1,e,h3]
theorem qpJ {x:Sc}{t:Tm}:Lk x t x t:=⟨rfl,fun _=>rfl⟩
theorem qmY {sx:Nat->Sc}:∀(j:Nat) (l:List Tm),LkK sx sx j l l
 |_,[]=>trivial
 |j,_::r=>⟨qpJ,qmY (j+1) r⟩
end Go.AI.Tryz
namespace Go.AI.Tryz
theorem qlQ {t:Tm}(h:Sh t){ks:List Tm}(hl:ks.length=t.ks.length):Sh (t.with ks):=by
 have h1:=qc0 h
 refine qlL ?_
 rw[<-h1]
 obtain⟨k,n,m,i,l⟩:=t
 simp only[Tm.ks] at hl
 show(match qcq formL k with|none=>false|some f=>(((f.n||decide (n=0))&&(f.m||decide (m=0)))&&(f.i||decide (i=0)))&&(decide (f.k<0)||decide (f.k=Int.ofNat ks.length)))=_
 simp only[hl]
 rfl
theorem qtA {t:Tm}(h:t.Ok){ks:List Tm}(hl:ks.length=t.ks.length)(hk:∀u∈ks,u.Ok):(t.with ks).Ok:=by
 cases h with
 |mk h1 h2 h3 h4 h5 h6=>exact .mk h1 h2 h3 h4 (by simp only[Tm.ks] at hl;omega) hk
theorem qrx {x:Sc}{t:Tm}{ks:List Tm}(h:t.k=17->(szF x (t.ks.headD .z)).1=(szF x (ks.headD .z)).1)(j:Nat):x.kid (t.with ks) j=x.kid t j:=by
 obtain⟨k,n,m,i,l⟩:=t
 simp only[Sc.kid,Tm.with,Tm.k,Tm.n,Tm.ks] at h⊢
 by_cases hk:k=17
 ·rw[h hk]
  rfl
 ·have:¬(k=17∧j=1):=fun h=>hk h.1
  simp only[this,if_false]
  rfl
theorem LkK.hd {sx sy:Nat->Sc}{l m:List Tm}(h:LkK sx sy 0 l m):(szF (sx 0) (l.headD .z)).1=(szF (sy 0) (m.headD .z)).1\/l=[]/\m=[]:=by
 match l,m,h with
 |[],[],_=>exact .inr ⟨rfl,rfl⟩
 |u::r,w::q,h=>exact .inl (by simp only[zbh];rw[h.1.1])
theorem qe3 {x:Sc}{t:Tm}(h:t.k=17):x.kid t 0=x:=by
 unfold Sc.kid
 rw[if_neg (by omega),if_neg (by simp),if_neg (by omega)]
theorem Lk.with {x:Sc}{t:Tm}{ks:List Tm}(h:Sh t)(hl:ks.length=t.ks.length)(hk:LkK (x.kid t) (x.kid t) 0 t.ks ks):Lk x t x (t.with ks):=by
 have e:∀j,x.kid (t.with ks) j=x.kid t j:=qrx fun h17=>by
  rcases hk.hd with h|⟨h1,h2⟩
  ·rw[qe3 h17] at h;exact h
  ·rw[h1,h2]
 refine Lk.node h (qlQ h hl) ?_ ?_ ?_ ?_ ?_ ?_ ?_
 ·cases t;rfl
 ·cases t;rfl
 ·cases t;intro _;rfl
 ·cases t;intro _;rfl
 ·cases t;rfl
 ·cases t;intro _;rfl
 ·rw[show x.kid (t.with ks)=x.kid t from funext e]
  cases t;exact hk
structure PutOk (x:Sc)(t:Tm)(p:Sc×Tm)(u r:Tm):Prop where
 tr:Lk x t x r
 size:r.size+p.2.size=t.size+u.size
 ok:r.Ok
 sh:Sh r
theorem qmZ (u:Tm):∀(ks:List Tm) (j:Nat),(Tm.putL u j ks).length=ks.length
 |[],j=>by cases j<;>rfl
 |k::r,j=>by
  unfold Tm.putL
  split
  ·rfl
  ·simp only[zar,qmZ u r]
theorem qj3 {u:Tm}(hu:u.Ok){p:Sc×Tm}(hp:Lk p.1 p.2 p.1 u)(hsu:Sh u):∀(d:Nat) (t:Tm) (x:Sc) (j:Nat),t.size<=d->(qbp t x)[j]? =some p->Nd x t->PutOk x t p u (Tm.put1 u j t)
 |0,t,_,_,h,_,_=>by have:=Tm.size_pos t;omega
 |d+1,t,x,0,hd,hj,hn=>by
  rw[qcV] at hj
  simp only[zas,zac] at hj
  subst hj
  unfold Tm.put1
  exact⟨hp,by show u.size+t.size=_;omega,hu,hsu⟩
 |d+1,t,x,j+1,hd,hj,hn=>by
  rw[qcV] at hj
  simp only[zaK] at hj
  have hK:∀(r:List Tm) (sc:Nat->Sc) (m j:Nat),(∀w∈r,w.size<=d/\w.Ok)->(∀i w,r[i]? =some w->Nd (sc (m+i)) w)->(qbf sc m r)[j]? =some p->
    LkK sc sc m r (Tm.putL u j r)/\Tm.sizeL (Tm.putL u j r)+p.2.size=Tm.sizeL r+u.size/\∀w∈Tm.putL u j r,w.Ok:=by
   intro r
   induction r with
   |nil=>intro sc m j _ _ h;simp[qbf] at h
   |cons k r ih=>
    intro sc m j hsz hnd h
    simp only[qbf] at h
    unfold Tm.putL
    by_cases hlt:j<k.size
    ·rw[if_pos hlt]
     rw[zaL (by rw[qbP];exact hlt)] at h
     obtain⟨h1,h2,h3,h4⟩:=qj3 hu hp hsu d k (sc m) j (hsz k (zav ..)).1 h (hnd 0 k rfl)
     refine⟨⟨h1,qmY _ _⟩,by simp only[Tm.sizeL];omega,fun w hw=>?_⟩
     rcases zaE.1 hw with rfl|hw
     ·exact h3
     ·exact(hsz w (zaw _ hw)).2
    ·rw[if_neg hlt]
     rw[zaA (by rw[qbP];omega),qbP] at h
     obtain⟨h1,h2,h3⟩:=ih sc (m+1) (j-k.size) (fun w hw=>hsz w (zaw _ hw)) (fun i w hi=>by
      have:=hnd (i+1) w (by simpa using hi)
      rw[show m+1+i=m+(i+1) by omega]
      exact this) h
     refine⟨⟨qpJ,h1⟩,by simp only[Tm.sizeL];omega,fun w hw=>?_⟩
     rcases zaE.1 hw with rfl|hw
     ·exact(hsz w (zav ..)).2
     ·exact h3 w hw
  obtain⟨h1,h2,h3⟩:=hK t.ks (fun j=>x.kid t j) 0 j (fun w hw=>⟨by have:=qa3 hw;omega,hn.ok.kids w hw⟩) (fun i w hi=>by rw[zaF];exact hn.kid hi) hj
  rw[Tm.put1_succ]
  have hl:=qmZ u t.ks j
  refine⟨Lk.with hn.sh hl h1,?_,qtA hn.ok hl h3,qlQ hn.sh hl⟩
  have e1:=Tm.size_ks t
  have e2:=Tm.size_ks (t.with (Tm.putL u j t.ks))
  have e3:(t.with (Tm.putL u j t.ks)).ks=Tm.putL u j t.ks:=by cases t;rfl
  rw[e3] at e2
  omega
end Go.AI.Tryz
namespace Go.AI.Tryz
structure Good (x:Sc)(t u:Tm):Prop where
 sz:szF x t=szF x u
 ok2:(szF x t).2=true
 le:u.size<=t.size
 ok:u.Ok
theorem qix {n m:Int}(h:0<=n/\n<=64)(hm:0<=m/\m<=64):(Tm.num n m).Ok:=.mk (by decide) (by omega) (by omega) (by decide) (by decide) (fun _ h=>by cases h)
theorem ok1_of {k n m i:Int}{a:Tm}(hk:0<=k/\k<256)(hn: -9223372036854775808<=n/\n<=9223372036854775807)(hm: -9223372036854775808<=m/\m<=9223372036854775807)(hi: -9223372036854775808<=i/\i<=9223372036854775807)(ha:a.Ok):(Tm.mk k n m i [a]).Ok:=
 .mk hk hn hm hi (by rw[qbK];simp only[zar,zaC];omega) fun u hu=>by
  simp only[zaE,zaH,or_false] at hu
  subst hu;exact ha
theorem ok2_of {k n m i:Int}{a b:Tm}(hk:0<=k/\k<256)(hn: -9223372036854775808<=n/\n<=9223372036854775807)(hm: -9223372036854775808<=m/\m<=9223372036854775807)(hi: -9223372036854775808<=i/\i<=9223372036854775807)(ha:a.Ok)(hb:b.Ok):(Tm.mk k n m i [a,b]).Ok:=
 .mk hk hn hm hi (by rw[qbK];simp only[zar,zaC];omega) fun u hu=>by
  simp only[zaE,zaH,or_false] at hu
  rcases hu with rfl|rfl
  ·exact ha
  ·exact hb
theorem ok3_of {k n m i:Int}{a b c:Tm}(hk:0<=k/\k<256)(hn: -9223372036854775808<=n/\n<=9223372036854775807)(hm: -9223372036854775808<=m/\m<=9223372036854775807)(hi: -9223372036854775808<=i/\i<=9223372036854775807)(ha:a.Ok)(hb:b.Ok)(hc:c.Ok):(Tm.mk k n m i [a,b,c]).Ok:=
 .mk hk hn hm hi (by rw[qbK];simp only[zar,zaC];omega) fun u hu=>by
  simp only[zaE,zaH,or_false] at hu
  rcases hu with rfl|rfl|rfl
  ·exact ha
  ·exact hb
  ·exact hc
theorem qcg {t:Tm}(h:t.Ok):(0<=t.k/\t.k<256)/\(-9223372036854775808<=t.n/\t.n<=9223372036854775807)/\(-9223372036854775808<=t.m/\t.m<=9223372036854775807)/\(-9223372036854775808<=t.i/\t.i<=9223372036854775807):=by cases h with|mk h1 h2 h3 h4 _ _=>exact⟨h1,h2,h3,h4⟩
theorem z64:(-9223372036854775808:Int)<=0/\(0:Int)<=9223372036854775807:=by decide
theorem o64:(-9223372036854775808:Int)<=1/\(1:Int)<=9223372036854775807:=by decide
theorem qjr {a m:Int}(ha:0<=a)(hm:1<=m):0<=a.tmod m/\a.tmod m<m:=by
 rw[Int.tmod_eq_emod_of_nonneg ha]
 exact⟨Int.emod_nonneg _ (by omega),Int.emod_lt_of_pos _ (by omega)⟩
theorem qvx {n m a b:Int}(hm:1<=m)(ha:0<=a)(hb:0<=b)(hb2:b<m):(n=1\/n=2\/n=3->0<=qgs n m a b/\qgs n m a b<m)/\(n=4\/n=5->0<=qgs n m a b/\qgs n m a b<2):=by
 unfold qgs
 refine⟨fun h=>?_,fun h=>?_⟩
 ·rcases h with rfl|rfl|rfl
  ·exact qjr (by omega) hm
  ·exact qjr (by omega) hm
  ·exact qjr (Int.mul_nonneg ha hb) hm
 ·rcases h with rfl|rfl<;>simp only[zaj,if_false,if_true]
  ·cases decide (a=b)<;>simp
  ·cases decide (a<b)<;>simp
theorem qnN {x:Sc}{t:Tm}{n m:Int}(h:(szF x t).2=true)(hn:qbH t n m=true):t=.num n m:=by
 simp only[qbH,zag,decide_eq_true_eq] at hn
 obtain⟨p,q,rfl⟩:=qez (qda h) hn.1
 rw[show p=n from hn.2.1,show q=m from hn.2.2]
theorem qtB {x:Sc}{t r:Tm}(h:Nd x t)(e:opR x t=some r):Good x t r:=by
 by_cases hk:t.k=5
 ·have hsz:=h.gd.sz (by omega) (by omega)
  have hok:=h.ok
  have hko:=hok.kids
  have hf:=qcg hok
  have hsc:=h.sc
  cases h.sh with
  |op n m a b=>
   have e:(if qaI a&&qaI b then some (.num (qgs n m a.n b.n) (szF x (.op n m a b)).1) else none)=some r:=e
   split at e
   ·rename_i hab
    simp only[zag] at hab
    simp only[zac] at e
    subst e
    have hs2:=hsz
    rw[qeE] at hs2⊢
    have hin:qbe m=true/\is2 (szF x a) m=true/\is2 (szF x b) m=true:=by
     split at hs2
     ·simpa only[zag] using hs2
     ·split at hs2
      ·simpa only[zag] using hs2
      ·cases hs2
    obtain⟨h1,h2,h3⟩:=hin
    rw[is2_iff] at h2 h3
    have ra:=qdN (x:=x) (by rw[h2]) hab.1
    have rb:=qdN (x:=x) (by rw[h3]) hab.2
    rw[h2] at ra;rw[h3] at rb
    rw[isSize_iff] at h1
    have hr:=qvx (n:=n) (m:=m) (a:=a.n) (b:=b.n) h1.1 ra.1 rb.1 (by have:=rb.2.2.2;simp only at this;omega)
    by_cases hn:n=1\/n=2\/n=3
    ·have hr:=hr.1 hn
     rw[if_pos hn]
     refine⟨?_,hsz,?_,qix (by omega) (by simp only;omega)⟩
     ·rw[qeE,qdv,if_pos hn,h2,h3]
      simp only[is2,decide_true,za8,isSize_iff.2 h1,isBelow_iff.2 hr]
     ·simp only[Tm.size,Tm.sizeL];omega
    ·rw[if_neg hn] at hs2⊢
     by_cases hn2:n=4\/n=5
     ·have hr:=hr.2 hn2
      rw[if_pos hn2]
      refine⟨?_,hsz,?_,qix (by omega) (by simp only;omega)⟩
      ·rw[qeE,qdv,if_neg hn,if_pos hn2,h2,h3]
       simp only[is2,decide_true,za8,isSize_iff.2 h1,isBelow_iff.2 hr,isSize_iff.2 (show 1<=(2:Int)/\(2:Int)<=64 by decide)]
      ·simp only[Tm.size,Tm.sizeL];omega
     ·rw[if_neg hn2] at hs2;cases hs2
   ·cases e
  |_=>simp only[Tm.k_mk] at hk;omega
 ·unfold opR at e;rw[if_neg hk] at e;cases e
theorem qtC {x:Sc}{t r:Tm}(h:Nd x t)(e:asR t=some r):Good x t r:=by
 by_cases hk:t.k=6
 ·have hsz:=h.gd.sz (by omega) (by omega)
  have hok:=h.ok
  have hko:=hok.kids
  have hf:=qcg hok
  have hsc:=h.sc
  cases h.sh with
  |az n u=>
   have e:(if qaI u then some (.num (u.n.tmod n) n) else none)=some r:=e
   split at e
   ·rename_i hu
    simp only[zac] at e
    subst e
    have hs2:=hsz
    rw[qeF,zag,isSize_iff] at hs2
    have ra:=qdN (x:=x) hs2.1 hu
    have hr:=qjr ra.1 hs2.2.1
    refine⟨?_,hsz,by simp only[Tm.size,Tm.sizeL];omega,qix (by omega) (by omega)⟩
    rw[qeF,qdv,hs2.1,isSize_iff.2 hs2.2,isBelow_iff.2 hr]
   ·cases e
  |_=>simp only[Tm.k_mk] at hk;omega
 ·unfold asR at e;rw[if_neg hk] at e;cases e
theorem qpK {x:Sc}{t r:Tm}(h:Nd x t)(e:qhT x t=some r):Good x t r:=by
 by_cases hk:t.k=6
 ·have hsz:=h.gd.sz (by omega) (by omega)
  have hok:=h.ok
  have hko:=hok.kids
  have hf:=qcg hok
  have hsc:=h.sc
  cases h.sh with
  |az n u=>
   have e:(if !qaI u&&decide ((szF x u).1=n) then some u else none)=some r:=e
   split at e
   ·rename_i hu
    simp only[zag,decide_eq_true_eq] at hu
    simp only[zac] at e
    subst e
    have hs2:=hsz
    rw[qeF,zag] at hs2
    refine⟨?_,hsz,by simp only[Tm.size,Tm.sizeL];omega,hko _ (by simp[Tm.ks])⟩
    rw[qeF,hs2.1,hs2.2,<-hu.2,zat,<-hs2.1]
   ·cases e
  |_=>simp only[Tm.k_mk] at hk;omega
 ·unfold qhT at e;rw[if_neg hk] at e;cases e
theorem qkP {x:Sc}{t r:Tm}(h:Nd x t)(e:qcU t=some r):Good x t r:=by
 by_cases hk:t.k=5
 ·have hsz:=h.gd.sz (by omega) (by omega)
  have hok:=h.ok
  have hko:=hok.kids
  have hf:=qcg hok
  have hsc:=h.sc
  cases h.sh with
  |op n m a b=>
   have e:(if(qjB n).isSome&&(!qaI a&&(qaI b&&decide (b.n=(qjB n).getD 0))) then some a else none)=some r:=e
   split at e
   ·rename_i hu
    simp only[zag] at hu
    simp only[zac] at e
    subst e
    have hs2:=hsz
    rw[qeE] at hs2
    have hin:qbe m=true/\is2 (szF x a) m=true/\is2 (szF x b) m=true:=by
     split at hs2
     ·simpa only[zag] using hs2
     ·split at hs2
      ·simpa only[zag] using hs2
      ·cases hs2
    obtain⟨h1,h2,h3⟩:=hin
    have hn:n=1\/n=2\/n=3:=by
     by_cases n1:n=1
     ·exact .inl n1
     ·by_cases n2:n=2
      ·exact .inr (.inl n2)
      ·by_cases n3:n=3
       ·exact .inr (.inr n3)
       ·have:=hu.1
        simp only[qjB,n1,n2,n3,if_false,zaD] at this
        cases this
    refine⟨?_,hsz,by simp only[Tm.size,Tm.sizeL];omega,hko _ (by simp[Tm.ks])⟩
    rw[qeE,if_pos hn,h1,h2,h3]
    rw[is2_iff] at h2
    rw[h2];rfl
   ·cases e
  |_=>simp only[Tm.k_mk] at hk;omega
 ·unfold qcU at e;rw[if_neg hk] at e;cases e
theorem qpL {x:Sc}{t r:Tm}(h:Nd x t)(e:qhU t=some r):Good x t r:=by
 by_cases hk:t.k=5
 ·have hsz:=h.gd.sz (by omega) (by omega)
  have hok:=h.ok
  have hko:=hok.kids
  have hf:=qcg hok
  have hsc:=h.sc
  cases h.sh with
  |op n m a b=>
   have e:(if(decide (n=1)||(decide (n=3)||decide (n=4)))&&(qaI a&&!qaI b) then some (.op n m b a) else none)=some r:=e
   split at e
   ·simp only[zac] at e
    subst e
    refine⟨?_,hsz,by simp only[Tm.size,Tm.sizeL];omega,ok2_of (by decide) hf.2.1 hf.2.2.1 z64 (hko _ (by simp[Tm.ks])) (hko _ (by simp[Tm.ks]))⟩
    rw[qeE,qeE,Bool.and_comm (is2 (szF x a) m)]
   ·cases e
  |_=>simp only[Tm.k_mk] at hk;omega
 ·unfold qhU at e;rw[if_neg hk] at e;cases e
theorem qtD {x:Sc}{t r:Tm}(h:Nd x t)(e:ifR t=some r):Good x t r:=by
 by_cases hk:t.k=8
 ·have hsz:=h.gd.sz (by omega) (by omega)
  have hok:=h.ok
  have hko:=hok.kids
  have hf:=qcg hok
  have hsc:=h.sc
  cases h.sh with
  |ite c a b=>
   have e:(if qaI c then some (if c.n=0 then b else a) else none)=some r:=e
   split at e
   ·simp only[zac] at e
    have hs2:=hsz
    rw[qcv,zag,zag,is2_iff] at hs2
    have ha:szF x (.ite c a b)=szF x a:=by
     rw[qcv,hs2.1.1,hs2.1.2,hs2.2]
     simp only[is2,decide_true,za8]
     rw[<-hs2.1.1]
    split at e
    ·subst e
     refine⟨?_,hsz,by simp only[Tm.size,Tm.sizeL];omega,hko _ (by simp[Tm.ks])⟩
     rw[ha,hs2.1.2,<-hs2.1.1]
    ·subst e
     exact⟨ha,hsz,by simp only[Tm.size,Tm.sizeL];omega,hko _ (by simp[Tm.ks])⟩
   ·cases e
  |_=>simp only[Tm.k_mk] at hk;omega
 ·unfold ifR at e;rw[if_neg hk] at e;cases e
theorem qpM {x:Sc}{t r:Tm}(h:Nd x t)(e:qhV t=some r):Good x t r:=by
 by_cases hk:t.k=8
 ·have hsz:=h.gd.sz (by omega) (by omega)
  have hok:=h.ok
  have hko:=hok.kids
  have hf:=qcg hok
  have hsc:=h.sc
  cases h.sh with
  |ite c a b=>
   have e:(if !qaI c&&decide (a=b) then some (.seq (.az 1 c) a) else none)=some r:=e
   split at e
   ·rename_i hu
    simp only[zag,decide_eq_true_eq] at hu
    simp only[zac] at e
    subst e
    have hs2:=hsz
    rw[qcv,zag,zag,is2_iff] at hs2
    refine⟨?_,hsz,?_,ok2_of (by decide) z64 z64 z64 (ok1_of (by decide) o64 z64 z64 (hko _ (by simp[Tm.ks]))) (hko _ (by simp[Tm.ks]))⟩
    ·rw[qcv,qbY,qeF,hs2.1.1,hs2.1.2,hs2.2]
     simp only[is2,decide_true,za8,zax]
     rfl
    ·rw[←hu.2]
     simp only[Tm.size,Tm.sizeL]
     have:=Tm.size_pos a
     omega
   ·cases e
  |_=>simp only[Tm.k_mk] at hk;omega
 ·unfold qhV at e;rw[if_neg hk] at e;cases e
theorem qpN {x:Sc}{t r:Tm}(h:Nd x t)(e:qhW x t=some r):Good x t r:=by
 by_cases hk:t.k=8
 ·have hsz:=h.gd.sz (by omega) (by omega)
  have hok:=h.ok
  have hko:=hok.kids
  have hf:=qcg hok
  have hsc:=h.sc
  cases h.sh with
  |ite c a b=>
   have e:(if qbH a 1 2&&(qbH b 0 2&&(!qaI c&&decide ((szF x c).1=2))) then some c else none)=some r:=e
   split at e
   ·rename_i hu
    simp only[zag,decide_eq_true_eq] at hu
    simp only[zac] at e
    subst e
    have hs2:=hsz
    rw[qcv,zag,zag,is2_iff] at hs2
    have ha:=qnN hs2.1.1 hu.1
    refine⟨?_,hsz,by simp only[Tm.size,Tm.sizeL];omega,hko _ (by simp[Tm.ks])⟩
    have h1:(szF x a).1=2:=by rw[ha,qdv]
    rw[qcv,hs2.1.1,hs2.1.2,hs2.2,h1,<-hu.2.2.2]
    simp only[is2,decide_true,za8]
    rw[<-hs2.2]
   ·cases e
  |_=>simp only[Tm.k_mk] at hk;omega
 ·unfold qhW at e;rw[if_neg hk] at e;cases e
theorem qpO {x:Sc}{t r:Tm}(h:Nd x t)(e:qhX t=some r):Good x t r:=by
 by_cases hk:t.k=7
 ·have hsz:=h.gd.sz (by omega) (by omega)
  have hok:=h.ok
  have hko:=hok.kids
  have hf:=qcg hok
  have hsc:=h.sc
  cases h.sh with
  |seq a b=>
   have e:(if qaI a then some b else none)=some r:=e
   split at e
   ·simp only[zac] at e
    subst e
    have hs2:=hsz
    rw[qbY,zag] at hs2
    refine⟨?_,hsz,by simp only[Tm.size,Tm.sizeL];omega,hko _ (by simp[Tm.ks])⟩
    rw[qbY,hs2.2,za8]
   ·cases e
  |_=>simp only[Tm.k_mk] at hk;omega
 ·unfold qhX at e;rw[if_neg hk] at e;cases e
theorem qpP {x:Sc}{t r:Tm}(h:Nd x t)(e:qfQ x t=some r):Good x t r:=by
 by_cases hk:t.k=7
 ·have hsz:=h.gd.sz (by omega) (by omega)
  have hok:=h.ok
  have hko:=hok.kids
  have hf:=qcg hok
  have hsc:=h.sc
  cases h.sh with
  |seq a b=>
   have e:(if a.k=12\/a.k=14 then(if !decide (b=.num 0 (szF x (.seq a b)).1) then some (.seq a (.num 0 (szF x (.seq a b)).1)) else none) else none)=some r:=e
   split at e
   ·split at e
    ·simp only[zac] at e
     subst e
     have hr:=qfu _ (.seq a b) x (zan _) hsc hsz
     have hs2:=hsz
     rw[qbY,zag] at hs2
     refine⟨?_,hsz,?_,ok2_of (by decide) z64 z64 z64 (hko _ (by simp[Tm.ks])) (qix (by omega) (by omega))⟩
     ·rw[qbY,qbY,qdv,hs2.1,hs2.2]
      rw[qbY] at hr
      rw[isSize_iff.2 hr,isBelow_iff.2 (by omega)];rfl
     ·simp only[Tm.size,Tm.sizeL]
      have:=Tm.size_pos b
      omega
    ·cases e
   ·cases e
  |_=>simp only[Tm.k_mk] at hk;omega
 ·unfold qfQ at e;rw[if_neg hk] at e;cases e
theorem qnO {x:Sc}{t r:Tm}(h:Nd x t)(e:qeM t=some r):Good x t r:=by
 by_cases hk:t.k=9
 ·have hsz:=h.gd.sz (by omega) (by omega)
  have hok:=h.ok
  have hko:=hok.kids
  have hf:=qcg hok
  have hsc:=h.sc
  cases h.sh with
  |whl c b=>
   have e:(if qaI c&&decide (c.n=0) then some (.num 0 1) else none)=some r:=e
   split at e
   ·simp only[zac] at e
    subst e
    have hs2:=hsz
    rw[qfs] at hs2
    simp only at hs2
    refine⟨?_,hsz,by simp only[Tm.size,Tm.sizeL];omega,qix (by decide) (by decide)⟩
    rw[qfs,qdv,hs2];rfl
   ·cases e
  |_=>simp only[Tm.k_mk] at hk;omega
 ·unfold qeM at e;rw[if_neg hk] at e;cases e
theorem qpQ {x:Sc}{t r:Tm}(h:Nd x t)(e:qhY t=some r):Good x t r:=by
 by_cases hk:t.k=11
 ·have hsz:=h.gd.sz (by omega) (by omega)
  have hok:=h.ok
  have hko:=hok.kids
  have hf:=qcg hok
  have hsc:=h.sc
  cases h.sh with
  |lbl u w=>
   have e:(if decide (u.k=12)&&decide (u.n=0) then some w else none)=some r:=e
   split at e
   ·simp only[zac] at e
    subst e
    have hs2:=hsz
    rw[qem,zag,is2_iff] at hs2
    refine⟨?_,hsz,by simp only[Tm.size,Tm.sizeL];omega,hko _ (by simp[Tm.ks])⟩
    rw[qem,hs2.1,hs2.2]
    simp only[is2,decide_true,za8]
   ·cases e
  |_=>simp only[Tm.k_mk] at hk;omega
 ·unfold qhY at e;rw[if_neg hk] at e;cases e
theorem qlR {x:Sc}{t r:Tm}(h:Nd x t)(e:qdE t=some r):Good x t r:=by
 by_cases hk:t.k=13
 ·have hsz:=h.gd.sz (by omega) (by omega)
  have hok:=h.ok
  have hko:=hok.kids
  have hf:=qcg hok
  have hsc:=h.sc
  cases h.sh with
  |cho a b=>
   have e:(if decide (a=b) then some a else none)=some r:=e
   split at e
   ·simp only[zac] at e
    subst e
    have hs2:=hsz
    rw[qen,zag,is2_iff] at hs2
    refine⟨?_,hsz,by simp only[Tm.size,Tm.sizeL];omega,hko _ (by simp[Tm.ks])⟩
    rw[qen,hs2.1,hs2.2]
    simp only[is2,decide_true,za8]
    rw[<-hs2.1]
   ·cases e
  |_=>simp only[Tm.k_mk] at hk;omega
 ·unfold qdE at e;rw[if_neg hk] at e;cases e
theorem qnP {x:Sc}{t r:Tm}(h:Nd x t)(e:qep t=some r):Good x t r:=by
 by_cases hk:t.k=13
 ·have hsz:=h.gd.sz (by omega) (by omega)
  have hok:=h.ok
  have hko:=hok.kids
  have hf:=qcg hok
  have hsc:=h.sc
  cases h.sh with
  |cho a b=>
   have e:(if a.k=14 then some b else if b.k=14 then some a else none)=some r:=e
   have hs2:=hsz
   rw[qen,zag,is2_iff] at hs2
   have ha:szF x (.cho a b)=szF x a:=by
    rw[qen,hs2.1,hs2.2]
    simp only[is2,decide_true,za8]
    rw[<-hs2.1]
   split at e
   ·simp only[zac] at e
    subst e
    refine⟨?_,hsz,by simp only[Tm.size,Tm.sizeL];omega,hko _ (by simp[Tm.ks])⟩
    rw[ha,hs2.2,<-hs2.1]
   ·split at e
    ·simp only[zac] at e
     subst e
     exact⟨ha,hsz,by simp only[Tm.size,Tm.sizeL];omega,hko _ (by simp[Tm.ks])⟩
    ·cases e
  |_=>simp only[Tm.k_mk] at hk;omega
 ·unfold qep at e;rw[if_neg hk] at e;cases e
theorem qlS {x:Sc}{t r:Tm}(h:Nd x t)(e:qdF x t=some r):Good x t r:=by
 by_cases hk:t.k=18
 ·have hsz:=h.gd.sz (by omega) (by omega)
  have hok:=h.ok
  have hko:=hok.kids
  have hf:=qcg hok
  have hsc:=h.sc
  cases h.sh with
  |ntc n i u=>
   have e:(if !u.any (qd1 x.top) 0 then some u else none)=some r:=e
   split at e
   ·simp only[zac] at e
    subst e
    have hs2:=hsz
    rw[qeo,zag] at hs2
    refine⟨?_,hsz,by simp only[Tm.size,Tm.sizeL];omega,hko _ (by simp[Tm.ks])⟩
    rw[qeo,hs2.2,za8]
   ·cases e
  |_=>simp only[Tm.k_mk] at hk;omega
 ·unfold qdF at e;rw[if_neg hk] at e;cases e
theorem qry {x:Sc}{t r:Tm}(h:Nd x t)(e:qnJ t=some r):Good x t r:=by
 by_cases hk:t.k=8
 ·have hsz:=h.gd.sz (by omega) (by omega)
  have hok:=h.ok
  have hko:=hok.kids
  have hf:=qcg hok
  have hsc:=h.sc
  cases h.sh with
  |ite c a b=>
   have e:(if c.k=8 then(match c.ks with|[p,q,r]=>if qbH q 0 2&&qbH r 1 2 then some (.ite p b a) else none|_=>none) else none)=some r:=e
   have hs2:=hsz
   rw[qcv,zag,zag,is2_iff] at hs2
   have oc:=hko c (by simp[Tm.ks])
   split at e
   ·rename_i hk
    cases qda hs2.2 with
    |ite p q r'=>
     have e:(if qbH q 0 2&&qbH r' 1 2 then some (.ite p b a) else none)=some r:=e
     split at e
     ·simp only[zac] at e
      subst e
      have hc:=hs2.2
      rw[qcv,zag] at hc
      refine⟨?_,hsz,?_,ok3_of (by decide) z64 z64 z64 (oc.kids p (by simp[Tm.ks])) (hko b (by simp[Tm.ks])) (hko a (by simp[Tm.ks]))⟩
      ·have hA:szF x a=((szF x a).1,true):=by rw[←hs2.1.1]
       have hB:=hs2.1.2
       rw[qcv x (.ite p q r') a b,qcv x p b a,hs2.2,hc.2,hB,hA]
      ·simp only[Tm.size,Tm.sizeL];omega
     ·cases e
    |_=>simp only[Tm.k_mk] at hk;omega
   ·cases e
  |_=>simp only[Tm.k_mk] at hk;omega
 ·unfold qnJ at e;rw[if_neg hk] at e;cases e
theorem qpR {x:Sc}{t r:Tm}(h:Nd x t)(e:qfP t=some r):Good x t r:=by
 by_cases hk:t.k=7
 ·have hsz:=h.gd.sz (by omega) (by omega)
  have hok:=h.ok
  have hko:=hok.kids
  have hf:=qcg hok
  have hsc:=h.sc
  cases h.sh with
  |seq a b=>
   have e:(if a.k=7 then(match a.ks with|[p,q]=>some (.seq p (.seq q b))|_=>none) else none)=some r:=e
   have hs2:=hsz
   rw[qbY,zag,is2_iff] at hs2
   have oa:=hko a (by simp[Tm.ks])
   split at e
   ·rename_i hk
    cases qda (x:=x) (t:=a) (by rw[hs2.2]) with
    |seq p q=>
     have e:some (Tm.seq p (.seq q b))=some r:=e
     simp only[zac] at e
     subst e
     have hc:=hs2.2
     rw[qbY] at hc
     simp only[zaq,zag] at hc
     refine⟨?_,hsz,?_,ok2_of (by decide) z64 z64 z64 (oa.kids p (by simp[Tm.ks])) (ok2_of (by decide) z64 z64 z64 (oa.kids q (by simp[Tm.ks])) (hko b (by simp[Tm.ks])))⟩
     ·have hp:szF x p=(1,true):=is2_iff.1 (by simp only[is2,zag];exact hc.2.2)
      rw[qbY x (.seq p q) b,hs2.2,qbY x p,qbY x q b,hp]
      simp only[is2,hc.1,hc.2.1,decide_true,za8]
     ·simp only[Tm.size,Tm.sizeL];omega
    |_=>simp only[Tm.k_mk] at hk;omega
   ·cases e
  |_=>simp only[Tm.k_mk] at hk;omega
 ·unfold qfP at e;rw[if_neg hk] at e;cases e
theorem qnQ {x:Sc}{t r:Tm}(h:Nd x t)(e:qdO x t=some r):Good x t r:=by
 by_cases hk:t.k=7
 ·have hsz:=h.gd.sz (by omega) (by omega)
  have hok:=h.ok
  have hko:=hok.kids
  have hf:=qcg hok
  have hsc:=h.sc
  cases h.sh with
  |seq p q=>
   have e:(if p.k=4 then(match p.ks with|[u]=>if decide (q.k=3)&&(decide (p.i=q.i)&&(decide (x.top<p.i)&&qaI u)) then some (.seq p u) else none|_=>none) else none)=some r:=e
   have hs2:=hsz
   rw[qbY,zag,is2_iff] at hs2
   have op:=hko p (by simp[Tm.ks])
   split at e
   ·rename_i hk
    cases qda (x:=x) (t:=p) (by rw[hs2.2]) with
    |put i u=>
     have e:(if decide (q.k=3)&&(decide (i=q.i)&&(decide (x.top<i)&&qaI u)) then some (.seq (.put i u) u) else none)=some r:=e
     split at e
     ·rename_i hu
      simp only[zag,decide_eq_true_eq] at hu
      simp only[zac] at e
      subst e
      have hk:=hu.1
      cases qda hs2.1 with
      |get j=>
       have hij:i=j:=hu.2.1
       subst hij
       have hc:=hs2.2
       rw[qeI] at hc
       simp only[zaq,zag,true_and] at hc
       have hcu:szF x u=(((x.get i).getD .none).ty.res.n,true):=is2_iff.1 (by simp only[is2,zag];exact hc.2)
       refine⟨?_,hsz,?_,ok2_of (by decide) z64 z64 z64 op (op.kids u (by simp[Tm.ks]))⟩
       ·rw[qbY,qbY,hs2.2,qhj,hcu,hc.1]
       ·simp only[Tm.size,Tm.sizeL]
        obtain⟨n,m,rfl⟩:=qez (qda (x:=x) (t:=u) (by rw[hcu])) hu.2.2.2
        simp only[Tm.size,Tm.sizeL];omega
      |_=>simp only[Tm.k_mk] at hk;omega
     ·cases e
    |_=>simp only[Tm.k_mk] at hk;omega
   ·cases e
  |_=>simp only[Tm.k_mk] at hk;omega
 ·unfold qdO at e;rw[if_neg hk] at e;cases e
end Go.AI.Tryz
namespace Go.AI.Tryz
abbrev up (x:Sc):Sc:={x with size:=x.size+1}
theorem qgv (g:Tm->Int->Tm)(lab:Bool)(l:Int):∀(ks:List Tm) (j:Nat),(Tm.chgK g lab l j ks).length=ks.length
 |[],_=>by simp only[Tm.chgK]
 |u::r,j=>by simp only[Tm.chgK,zar,qgv g lab l r]
theorem qm0 (g:Tm->Int->Tm)(lab:Bool)(l:Int):∀(ks:List Tm) (j:Nat) (w:Tm),w∈Tm.chgK g lab l j ks->∃u∈ks,∃l',w=Tm.chg g u l'/\(l'=l\/l'=l+1)
 |[],_,w,h=>by simp only[Tm.chgK] at h;cases h
 |u::r,j,w,h=>by
  simp only[Tm.chgK] at h
  rcases zaE.1 h with rfl|h
  ·exact⟨u,zav ..,_,rfl,by split<;>simp⟩
  ·obtain⟨v,hv,l',e⟩:=qm0 g lab l r (j+1) w h
   exact⟨v,zaw _ hv,l',e⟩
theorem qlT {is:Tm->Int->Bool}{lab:Bool}{l:Int}:∀{ks:List Tm} {j i:Nat} {w:Tm},Tm.anyK is lab l j ks=false->ks[i]? =some w->Tm.any is w (if lab&&decide (j+i=0) then l+1 else l)=false
 |[],_,i,w,_,h=>by simp at h
 |u::r,j,0,w,h,hi=>by
  simp only[Tm.anyK,zaU] at h
  simp only[zas,zac] at hi
  subst hi
  exact h.1
 |u::r,j,i+1,w,h,hi=>by
  simp only[Tm.anyK,zaU] at h
  have:=qlT h.2 (show r[i]? =some w by simpa using hi)
  rw[show j+(i+1)=j+1+i by omega]
  exact this
theorem LkK.chg {g:Tm->Int->Tm}{lab:Bool}{l:Int}{sx sy:Nat->Sc}:∀(ks:List Tm) (j:Nat),(∀i w,ks[i]? =some w->Lk (sx (j+i)) w (sy (j+i)) (Tm.chg g w (if lab&&decide (j+i=0) then l+1 else l)))->LkK sx sy j ks (Tm.chgK g lab l j ks)
 |[],_,_=>by simp only[Tm.chgK];exact trivial
 |u::r,j,h=>by
  simp only[Tm.chgK]
  refine⟨h 0 u rfl,LkK.chg r (j+1) fun i w hi=>?_⟩
  have:=h (i+1) w (by simpa using hi)
  rw[show j+1+i=j+(i+1) by omega]
  exact this
theorem qm1 (g:Tm->Int->Tm):∀(d:Nat) (t:Tm) (l:Int),t.size<=d->(Tm.chg g t l).size=t.size
 |0,t,_,h=>by have:=Tm.size_pos t;omega
 |d+1,t,l,h=>by
  have hk:∀(ks:List Tm) (lab:Bool) (j:Nat),(∀w∈ks,w.size<=d)->Tm.sizeL (Tm.chgK g lab l j ks)=Tm.sizeL ks:=by
   intro ks
   induction ks with
   |nil=>intro lab j _;simp only[Tm.chgK]
   |cons u r ih=>
    intro lab j hs
    simp only[Tm.chgK,Tm.sizeL]
    rw[qm1 g d u _ (hs u (zav ..)),ih lab (j+1) fun w hw=>hs w (zaw _ hw)]
  have h1:=Tm.size_ks t
  have h2:=Tm.size_ks (Tm.chg g t l)
  have h3:(Tm.chg g t l).ks=Tm.chgK g (decide (t.k=11)) l 0 t.ks:=by rw[Tm.chg_eq];rfl
  rw[h3,hk t.ks _ 0 fun w hw=>by have:=qa3 hw;omega] at h2
  omega
theorem qsl:∀(d:Nat) (t:Tm) (l:Int),t.size<=d->0<=l->t.Ok->(Tm.chg qcK t l).Ok
 |0,t,_,h,_,_=>by have:=Tm.size_pos t;omega
 |d+1,t,l,h,hl,hok=>by
  have hf:=qcg hok
  rw[Tm.chg_eq]
  have hn: -9223372036854775808<=(qcK t l).n/\(qcK t l).n<=9223372036854775807:=by
   unfold qcK
   split
   ·simp only[Tm.n_mk];omega
   ·exact hf.2.1
  have hm:(qcK t l).m=t.m:=by unfold qcK;split<;>rfl
  have hi:(qcK t l).i=t.i:=by unfold qcK;split<;>rfl
  refine .mk ?_ hn ?_ ?_ ?_ ?_
  ·rw[(qhn t l).2];exact hf.1
  ·rw[hm];exact hf.2.2.1
  ·rw[hi];exact hf.2.2.2
  ·rw[qgv];exact hok.len
  ·intro w hw
   obtain⟨u,hu,l',rfl,hl'⟩:=qm0 _ _ _ _ _ _ hw
   exact qsl d u l' (by have:=qa3 hu;omega) (by omega) (hok.kids u hu)
theorem qvy {x:Sc}{t t':Tm}(hk:t'.k=t.k)(hn:t.k≠12->t'.n=t.n)(h17:t.k=17->(szF (up x) (t.ks.headD .z)).1=(szF x (t'.ks.headD .z)).1)(j:Nat):(up x).kid t j=up (x.kid t' j)/\(x.kid t' j).size=if decide (t.k=11)&&decide (j=0) then x.size+1 else x.size:=by
 unfold Sc.kid
 rw[hk]
 by_cases h10:t.k=10
 ·have h11:¬t.k=11:=by omega
  rw[if_pos h10,if_pos h10,hn (by omega)]
  exact⟨rfl,by simp only[h11,decide_false,zau,zai,if_false];rfl⟩
 ·rw[if_neg h10,if_neg h10]
  by_cases h17':t.k=17/\j=1
  ·have h11:¬t.k=11:=by omega
   rw[if_pos h17',if_pos h17',h17 h17'.1]
   exact⟨rfl,by simp only[h11,decide_false,zau,zai,if_false];rfl⟩
  ·rw[if_neg h17',if_neg h17']
   by_cases h11:t.k=11/\j=0
   ·rw[if_pos h11,if_pos h11]
    exact⟨rfl,by simp only[h11.1,h11.2,decide_true,zat,if_true]⟩
   ·rw[if_neg h11,if_neg h11]
    refine⟨rfl,?_⟩
    rw[if_neg (by simpa using h11)]
theorem qsm:∀(d:Nat) (t:Tm) (x:Sc) (l:Int),t.size<=d->Nd (up x) t->t.any qcw l=false->0<=l->l<=x.size->Lk (up x) t x (Tm.chg qcK t l)
 |0,t,_,_,h,_,_,_,_=>by have:=Tm.size_pos t;omega
 |d+1,t,x,l,hd,hn,ha,hl,hlx=>by
  rw[Tm.any_eq,zaU] at ha
  have hk':(Tm.chg qcK t l).k=t.k:=by rw[Tm.chg_eq];exact(qhn t l).2
  have hks':(Tm.chg qcK t l).ks=Tm.chgK qcK (decide (t.k=11)) l 0 t.ks:=by rw[Tm.chg_eq];rfl
  have hn':t.k≠12->(Tm.chg qcK t l).n=t.n:=fun h=>by
   rw[Tm.chg_eq]
   show(qcK t l).n=_
   unfold qcK
   rw[if_neg (fun h'=>h h'.1)]
  have hm':(Tm.chg qcK t l).m=t.m:=by rw[Tm.chg_eq];show(qcK t l).m=_;unfold qcK;split<;>rfl
  have hi':(Tm.chg qcK t l).i=t.i:=by rw[Tm.chg_eq];show(qcK t l).i=_;unfold qcK;split<;>rfl
  have IH:∀i w,t.ks[i]? =some w->∀z,(up x).kid t i=up z->z.size=(if decide (t.k=11)&&decide (i=0) then x.size+1 else x.size)->Lk ((up x).kid t i) w z (Tm.chg qcK w (if decide (t.k=11)&&decide (i=0) then l+1 else l)):=by
   intro i w hi z hz hzs
   have h1:=hn.kid hi
   have h2:=qlT ha.2 hi
   rw[zaF] at h2
   rw[hz] at h1⊢
   refine qsm d w z _ (by have:=qa3 (zaN hi);omega) h1 h2 ?_ ?_
   ·split<;>omega
   ·rw[hzs];split<;>omega
  have h17:t.k=17->(szF (up x) (t.ks.headD .z)).1=(szF x ((Tm.chg qcK t l).ks.headD .z)).1:=fun h17=>by
   rw[hks']
   have h11:¬t.k=11:=by omega
   cases hks:t.ks with
   |nil=>
    have:=hn.sh
    cases this<;>simp[Tm.k,Tm.ks] at h17 hks
   |cons u r=>
    have:=IH 0 u (by rw[hks];rfl) x (qe3 h17) (by simp only[h11,decide_false,zau,zai,if_false])
    rw[qe3 h17] at this
    simp only[h11,decide_false,zau,zai,if_false] at this
    simp only[Tm.chgK,zbh,h11,decide_false,zau,zai,if_false]
    rw[this.1]
  have hku:=fun j=>qvy (x:=x) hk' hn' h17 j
  refine Lk.node hn.sh ?_ hk' hm' hn' ?_ ?_ ?_ ?_
  ·refine qlL ?_
   have h1:=qc0 hn.sh
   by_cases h12:t.k=12
   ·cases hn.sh with
    |jmp n=>
     rw[Tm.chg_eq]
     have:(qcK (.jmp n) l).k=12/\(qcK (.jmp n) l).m=0/\(qcK (.jmp n) l).i=0:=by unfold qcK;split<;>exact⟨rfl,rfl,rfl⟩
     rw[this.1,this.2.1,this.2.2]
     exact qc0 (.jmp _)
    |_=>simp only[Tm.k_mk] at h12;omega
   ·have e:Tm.chg qcK t l=t.with (Tm.chgK qcK (decide (t.k=11)) l 0 t.ks):=by
     rw[Tm.chg_eq]
     unfold qcK
     rw[if_neg (fun h'=>h12 h'.1)]
     rfl
    rw[e]
    exact qc0 (qlQ hn.sh (qgv ..))
  ·intro h12
   have hle:qcw t l=false:=ha.1
   simp only[qcw,h12,decide_true,zax,decide_eq_false_iff_not] at hle
   rw[Tm.chg_eq]
   show qbi t.n (x.size+1)=qbi (qcK t l).n x.size
   unfold qcK
   rw[Bool.eq_iff_iff,isBelow_iff,isBelow_iff]
   split
   ·rename_i h;simp only[Tm.n_mk];omega
   ·rename_i h
    have:¬l<t.n:=fun h'=>h ⟨h12,h'⟩
    omega
  ·rw[hi'];rfl
  ·intro _;rw[hi']
  ·rw[hks']
   refine LkK.chg t.ks 0 fun i w hi=>?_
   rw[zaF]
   exact IH i w hi _ (hku i).1 (hku i).2
theorem qnR {x:Sc}{t r:Tm}(h:Nd x t)(e:qeN t=some r):Good x t r:=by
 by_cases hk:t.k=11
 ·have hsz:=h.gd.sz (by omega) (by omega)
  have hok:=h.ok
  have hko:=hok.kids
  have hB:=h.b
  cases hs:h.sh with
  |lbl u w=>
   have e:(if !qkN u then some (Tm.unl u) else none)=some r:=e
   split at e
   ·rename_i hu
    simp only[zac] at e
    subst e
    have hs2:=hsz
    rw[qem,zag,is2_iff] at hs2
    have hnu:Nd (up x) u:=h.kid (t:=.lbl u w) (u:=u) (j:=0) rfl
    have htr:=qsm u.size u x 0 (zan _) hnu (by simpa[qkN] using hu) (by decide) hB.2.1
    refine⟨?_,hsz,?_,qsl u.size u 0 (zan _) (by decide) (hko u (by simp[Tm.ks]))⟩
    ·show _=szF x (Tm.chg qcK u 0)
     rw[qem,hs2.1,hs2.2,<-htr.1]
     simp only[is2,decide_true,za8]
     rw[<-hs2.1]
    ·show(Tm.chg qcK u 0).size≤_
     rw[qm1 qcK u.size u 0 (zan _)]
     simp only[Tm.size,Tm.sizeL];omega
   ·cases e
  |_=>simp only[Tm.k_mk] at hk;omega
 ·unfold qeN at e;rw[if_neg hk] at e;cases e
end Go.AI.Tryz
namespace Go.AI.Tryz
structure Rm (N id:Int)(X Y:Sc):Prop where
 ex:∃A B,X.ids=A++(⟨⟨[],⟨true,N⟩⟩,false⟩:Se)::B/\Y.ids=A++B/\id=Int.ofNat A.length+1
 top:Y.top=X.top
 size:Y.size=X.size
 lt:X.top<id
abbrev sh1 (id i:Int):Int:=if id<i then i-1 else i
theorem Rm.pos {N id:Int}{X Y:Sc}(h:Rm N id X Y):1<=id:=by
 obtain⟨A,B,_,_,e⟩:=h.ex
 have:(0:Int)<=Int.ofNat A.length:=Int.natCast_nonneg _
 omega
theorem Rm.get {N id:Int}{X Y:Sc}(h:Rm N id X Y){i:Int}(hi:i≠id):X.get i=Y.get (sh1 id i):=by
 obtain⟨A,B,hX,hY,he⟩:=h.ex
 have hp:=h.pos
 simp only[zaf] at he
 unfold Sc.get sh1
 by_cases h1:i<1
 ·rw[if_pos h1,if_neg (show¬id<i by omega),if_pos h1]
 ·by_cases h2:id<i
  ·rw[if_neg h1,if_pos h2,if_neg (by omega),hX,hY]
   have e1:(i-1).toNat=A.length+((i-1-1).toNat-A.length)+1:=by omega
   rw[zaA (by omega),zaA (by omega)]
   rw[show(i-1).toNat-A.length=((i-1-1).toNat-A.length)+1 by omega,zaK]
  ·rw[if_neg h1,if_neg h2,if_neg h1,hX,hY]
   rw[zaL (by omega),zaL (by omega)]
theorem Rm.at {N id:Int}{X Y:Sc}(h:Rm N id X Y):X.get id=some ⟨⟨[],⟨true,N⟩⟩,false⟩:=by
 obtain⟨A,B,hX,hY,he⟩:=h.ex
 simp only[zaf] at he
 unfold Sc.get
 rw[if_neg (by omega),hX,show(id-1).toNat=A.length by omega]
 rw[zaA (zan _),Nat.sub_self];rfl
theorem Rm.with {N id:Int}{X Y:Sc}(h:Rm N id X Y)(y:Se):Rm N id (X.with y) (Y.with y):=by
 obtain⟨A,B,hX,hY,he⟩:=h.ex
 exact⟨⟨A,B++[y],by simp only[Sc.with,hX,zaT,zaP],by simp only[Sc.with,hY,zaT],he⟩,h.top,h.size,h.lt⟩
theorem Rm.up {N id:Int}{X Y:Sc}(h:Rm N id X Y):Rm N id (up X) (up Y):=⟨h.ex,h.top,by show Y.size+1=X.size+1;rw[h.size],h.lt⟩
theorem Rm.kid {N id:Int}{X Y:Sc}(h:Rm N id X Y){t t':Tm}(hk:t'.k=t.k)(hn:t'.n=t.n)(h17:t.k=17->(szF X (t.ks.headD .z)).1=(szF Y (t'.ks.headD .z)).1)(j:Nat):Rm N id (X.kid t j) (Y.kid t' j):=by
 unfold Sc.kid
 rw[hk,hn]
 by_cases h10:t.k=10
 ·rw[if_pos h10,if_pos h10];exact h.with _
 ·rw[if_neg h10,if_neg h10]
  by_cases h17':t.k=17/\j=1
  ·rw[if_pos h17',if_pos h17',h17 h17'.1];exact h.with _
  ·rw[if_neg h17',if_neg h17']
   by_cases h11:t.k=11/\j=0
   ·rw[if_pos h11,if_pos h11];exact h.up
   ·rw[if_neg h11,if_neg h11];exact h
theorem qxc {t:Tm}(h:Sh t){i:Int}{ks:List Tm}(hi:t.i=0->i=0)(hl:ks.length=t.ks.length):Sh (.mk t.k t.n t.m i ks):=by
 have h1:=qc0 h
 refine qlL ?_
 obtain⟨k,n,m,i0,l⟩:=t
 simp only[Tm.ks,Tm.i] at hl hi
 have h1:(match qcq formL k with|none=>false|some f=>(((f.n||decide (n=0))&&(f.m||decide (m=0)))&&(f.i||decide (i0=0)))&&(decide (f.k<0)||decide (f.k=Int.ofNat l.length)))=true:=h1
 show(match qcq formL k with|none=>false|some f=>(((f.n||decide (n=0))&&(f.m||decide (m=0)))&&(f.i||decide (i=0)))&&(decide (f.k<0)||decide (f.k=Int.ofNat ks.length)))=true
 cases hf:qcq formL k with
 |none=>rw[hf] at h1;cases h1
 |some f=>
  rw[hf] at h1
  simp only[zag,za4,decide_eq_true_eq,hl] at h1⊢
  refine⟨⟨h1.1.1,?_⟩,h1.2⟩
  rcases h1.1.2 with h|h
  ·exact .inl h
  ·exact .inr (hi h)
theorem qlU (id:Int)(val:Tm):∀ks:List Tm,(woL id val ks).length=ks.length
 |[]=>rfl
 |u::r=>by simp only[woL,zar,qlU id val r]
theorem qpS (id:Int)(val:Tm):∀(ks:List Tm) (w:Tm),w∈woL id val ks->∃u∈ks,w=woF id val u
 |[],w,h=>by simp only[woL] at h;cases h
 |u::r,w,h=>by
  simp only[woL] at h
  rcases zaE.1 h with rfl|h
  ·exact⟨u,zav ..,rfl⟩
  ·obtain⟨v,hv,e⟩:=qpS id val r w h
   exact⟨v,zaw _ hv,e⟩
theorem LkK.wo {id:Int}{val:Tm}{sx sy:Nat->Sc}:∀(ks:List Tm) (j:Nat),(∀i w,ks[i]? =some w->Lk (sx (j+i)) w (sy (j+i)) (woF id val w))->LkK sx sy j ks (woL id val ks)
 |[],_,_=>by simp only[woL];exact trivial
 |u::r,j,h=>by
  simp only[woL]
  refine⟨h 0 u rfl,LkK.wo r (j+1) fun i w hi=>?_⟩
  have:=h (i+1) w (by simpa using hi)
  rw[show j+1+i=j+(i+1) by omega]
  exact this
structure WoOk (X Y:Sc)(t r:Tm):Prop where
 tr:Lk X t Y r
 size:r.size<=t.size
 ok:r.Ok
theorem qvz {N id:Int}{val:Tm}(hv:∀Y,szF Y val=(N,true))(hvs:val.size=1)(hvo:val.Ok):∀(d:Nat) (t:Tm) (X Y:Sc) (l:Int),t.size<=d->Rm N id X Y->Nd X t->t.any (isH id) l=false->WoOk X Y t (woF id val t)
 |0,t,_,_,_,h,_,_,_=>by have:=Tm.size_pos t;omega
 |d+1,t,X,Y,l,hd,hr,hn,ha=>by
  rw[Tm.any_eq,zaU] at ha
  have hp:=hr.pos
  have hsz:=hn.gd.sz
  have IH:∀i w,t.ks[i]? =some w->∀Z,Rm N id (X.kid t i) Z->WoOk (X.kid t i) Z w (woF id val w):=fun i w hi Z hz=>
   qvz hv hvs hvo d w _ Z _ (by have:=qa3 (zaN hi);omega) hz (hn.kid hi) (qlT ha.2 hi)
  have hf:=qcg hn.ok
  rw[qtt]
  by_cases hi:t.i=id
  ·rw[if_pos hi]
   have hko:=hn.ok.kids
   cases hs:hn.sh with
   |get i=>
    have hi:i=id:=hi
    subst hi
    rw[if_pos (show(Tm.get i).k=3 from rfl)]
    have h1:szF X (.get i)=(N,true):=by rw[qhj,hr.at];rfl
    exact⟨Lk.of_ok (by rw[h1,hv]) (by rw[h1]),by rw[hvs];exact Tm.size_pos _,hvo⟩
   |put i u=>
    have hi:i=id:=hi
    subst hi
    have hz:=hsz (by simp[Tm.k]) (by simp[Tm.k])
    obtain⟨h1,h2,h3⟩:=IH 0 u rfl Y hr
    have h1:szF X u=szF Y (woF i val u):=h1.1
    have hz2:=hz
    rw[qeI,hr.at,zag] at hz2
    have hu:szF X u=(N,true):=is2_iff.1 hz2.2
    rw[if_neg (by simp[Tm.k]),if_pos (show(Tm.put i u).k=4 from rfl)]
    show WoOk X Y (.put i u) (.az 1 (woF i val u))
    refine⟨Lk.of_ok ?_ hz,by simp only[Tm.size,Tm.sizeL];omega,ok1_of (by decide) o64 z64 z64 h3⟩
    rw[qeI,hr.at,qeF,<-h1,hu]
    simp only[is2,zaB,decide_true,za8,zax,Option.any_some]
    rfl
   |ntc n i u=>
    have hi:i=id:=hi
    subst hi
    have hz:=hsz (by simp[Tm.k]) (by simp[Tm.k])
    obtain⟨h1,h2,h3⟩:=IH 0 u rfl Y hr
    have h1:szF X u=szF Y (woF i val u):=h1.1
    have hz2:=hz
    rw[qeo,zag] at hz2
    rw[if_neg (by simp[Tm.k]),if_neg (by simp[Tm.k]),if_pos (show(Tm.ntc n i u).k=18 from rfl)]
    show WoOk X Y (.ntc n i u) (woF i val u)
    refine⟨Lk.of_ok ?_ hz,by simp only[Tm.size,Tm.sizeL];omega,h3⟩
    rw[qeo,<-h1,hz2.2,za8]
   |use i ks=>
    have hi:i=id:=hi
    subst hi
    have hz:=hsz (by simp[Tm.k]) (by simp[Tm.k])
    rw[qf9,hr.at] at hz
    simp only[zaB,zak,zau,zaS] at hz
    cases hz
   |val i=>
    have hi:i=id:=hi
    subst hi
    have hz:=hsz (by simp[Tm.k]) (by simp[Tm.k])
    rw[qhk,hr.at] at hz
    simp only[zaB,zaS] at hz
    cases hz
   |cel i=>
    have hi:i=id:=hi
    subst hi
    have:=ha.1
    simp only[isH,Tm.i_mk,Tm.k_mk,decide_true,zat] at this
    cases this
   |_=>exfalso;simp only[Tm.i_mk] at hi;omega
  ·rw[if_neg hi]
   have h17:t.k=17->(szF X (t.ks.headD .z)).1=(szF Y ((woL id val t.ks).headD .z)).1:=fun h17=>by
    cases hks:t.ks with
    |nil=>
     have:=hn.sh
     cases this<;>simp[Tm.k,Tm.ks] at h17 hks
    |cons u r=>
     have:=(IH 0 u (by rw[hks];rfl) Y (by rw[qe3 h17];exact hr)).tr
     rw[qe3 h17] at this
     simp only[woL,zbh]
     rw[this.1]
   have hkid:∀j,Rm N id (X.kid t j) (Y.kid (.mk t.k t.n t.m (sh1 id t.i) (woL id val t.ks)) j):=fun j=>hr.kid (t:=t) (t':=.mk t.k t.n t.m (sh1 id t.i) (woL id val t.ks)) rfl rfl h17 j
   have hl:(woL id val t.ks).length=t.ks.length:=qlU ..
   refine⟨?_,?_,?_⟩
   ·refine Lk.node hn.sh (qxc hn.sh (fun h0=>?_) hl) rfl rfl (fun _=>rfl) (fun h12=>?_) (hr.get hi) (fun _=>?_) (LkK.wo t.ks 0 fun i w hi=>?_)
    ·rw[h0,if_neg (by omega)]
    ·rw[hr.size];rfl
    ·have:=hr.lt
     show decide (X.top<t.i)=decide (Y.top<sh1 id t.i)
     rw[hr.top,decide_eq_decide]
     unfold sh1
     split<;>omega
    ·rw[zaF]
     exact(IH i w hi _ (hkid i)).tr
   ·have hK:∀(ks:List Tm),(∀w∈ks,(woF id val w).size≤w.size)→Tm.sizeL (woL id val ks)≤Tm.sizeL ks:=by
     intro ks
     induction ks with
     |nil=>intro _;exact zan _
     |cons u r ih=>
      intro h
      have h1:=h u (zav ..)
      have h2:=ih fun w hw=>h w (zaw _ hw)
      simp only[woL,Tm.sizeL];omega
    have h1:=Tm.size_ks t
    have h2:=Tm.size_ks (.mk t.k t.n t.m (if id<t.i then t.i-1 else t.i) (woL id val t.ks))
    have h3:=hK t.ks fun w hw=>by
     obtain⟨i,hi⟩:=List.getElem?_of_mem hw
     exact(IH i w hi _ (hkid i)).size
    simp only[Tm.ks_mk] at h2
    omega
   ·refine .mk hf.1 hf.2.1 hf.2.2.1 ?_ (by rw[hl];exact hn.ok.len) fun w hw=>?_
    ·split<;>omega
    ·obtain⟨u,hu,rfl⟩:=qpS _ _ _ _ hw
     obtain⟨i,hi⟩:=List.getElem?_of_mem hu
     exact(IH i u hi _ (hkid i)).ok
theorem qhs {x:Sc}{t r:Tm}{ok:Nm->Bool}(hk:∀y,ok y=true->y.h=false)(ht:x.top<=Int.ofNat x.ids.length)(h:Nd x t)(e:clR x ok (ini t) t=some r):Good x t r:=by
 by_cases hk10:t.k=10
 ·have hsz:=h.gd.sz (by omega) (by omega)
  have hok:=h.ok
  have hf:=qcg hok
  have hnu:=fun u hu=>h.kid (u:=u) (j:=0) hu
  cases hs:h.sh with
  |new n m u=>
   have e:(if ok (qe8 (cid x) u) then some (woF (cid x) (ini (.new n m u)) u) else none)=some r:=e
   split at e
   ·rename_i hu
    simp only[zac] at e
    subst e
    have hs2:=hsz
    rw[qeJ,zag,zag,isSize_iff,isBelow_iff] at hs2
    have hv:∀Y,szF Y (ini (.new n m u))=(n,true):=fun Y=>by
     show szF Y (.num m n)=_
     rw[qdv,isSize_iff.2 hs2.2.1,isBelow_iff.2 hs2.2.2];rfl
    have hR:Rm n (cid x) (x.with ⟨⟨[],⟨true,n⟩⟩,false⟩) x:=⟨⟨x.ids,[],rfl,(zbg _).symm,rfl⟩,rfl,rfl,by show x.top<Int.ofNat x.ids.length+1;omega⟩
    obtain⟨h1,h2,h3⟩:=qvz hv rfl (qix (show 0<=m/\m<=64 by omega) (show 0<=n/\n<=64 by omega)) u.size u _ x 0 (zan _) hR (hnu u rfl) (hk _ hu)
    refine⟨?_,hsz,by simp only[Tm.size,Tm.sizeL];omega,h3⟩
    rw[qeJ,<-h1.1,hs2.1,isSize_iff.2 hs2.2.1,isBelow_iff.2 hs2.2.2]
    exact Prod.ext rfl hs2.1.symm
   ·cases e
  |_=>simp only[Tm.k_mk] at hk10;omega
 ·unfold clR at e;rw[if_neg hk10] at e;cases e
theorem keep {x:Sc}{t r:Tm}{i:Nat}(h:Nd x t)(ht:x.top<=Int.ofNat x.ids.length)(hi:i<22)(e:qbm i x t=some r):Good x t r:=by
 match i,hi with
 |0,_=>exact qtB h e
 |1,_=>exact qtC h e
 |2,_=>exact qpK h e
 |3,_=>exact qkP h e
 |4,_=>exact qpL h e
 |5,_=>exact qtD h e
 |6,_=>exact qpM h e
 |7,_=>exact qry h e
 |8,_=>exact qpN h e
 |9,_=>exact qpO h e
 |10,_=>exact qpR h e
 |11,_=>exact qpP h e
 |12,_=>exact qnO h e
 |13,_=>exact qhs (fun y hy=>by simp only[okU,zag,za0] at hy;exact hy.2.2) ht h e
 |14,_=>exact qhs (fun y hy=>by simp only[qro,zag,za0] at hy;exact hy.2.2) ht h e
 |15,_=>exact qhs (fun y hy=>by simp only[qrp,zag,za0] at hy;exact hy.2.2) ht h e
 |16,_=>exact qnQ h e
 |17,_=>exact qnR h e
 |18,_=>exact qpQ h e
 |19,_=>exact qlS h e
 |20,_=>exact qlR h e
 |21,_=>exact qnP h e
 |_+22,h=>exact absurd h (by omega)
end Go.AI.Tryz
namespace Go.AI
def qhB (u:Tm)(a:Int)(t:Tm):Tm:=if 0<=a/\a<t.size then Tm.put1 u a.toNat t else t
mutual
theorem qkQ (u:Tm):∀(t:Tm) (j:Nat),(Tm.put1 u j t).size<=t.size+u.size
 |t,0=>by cases t;rw[Tm.put1];omega
 |.mk k n m i ks,j+1=>by
  have:=qkR u ks j
  simp only[Tm.put1,Tm.size];omega
theorem qkR (u:Tm):∀(ks:List Tm) (j:Nat),Tm.sizeL (Tm.putL u j ks)<=Tm.sizeL ks+u.size
 |[],j=>by cases j<;>simp only[Tm.putL]<;>omega
 |k::r,j=>by
  have h1:=qkQ u k j
  have h2:=qkR u r (j-k.size)
  simp only[Tm.putL]
  split<;>simp only[Tm.sizeL]<;>omega
end
theorem qpT (u:Tm)(a:Int)(t:Tm):(qhB u a t).size<=t.size+u.size:=by
 unfold qhB
 split
 ·exact qkQ u t _
 ·omega
def qiy:Int×Int×Tm->Tm->Int->(Int×Int×Tm)×(Tm×Bool):=fun c t l=>(((qdQ c.2.1 c.2.2 c.1 t l).1,c.2),(qdQ c.2.1 c.2.2 c.1 t l).2)
theorem qm2 (a:Int)(u:Tm):∀(d:Nat) (c:Int) (t:Tm) (l:Int),qc2 qiy d (c,a,u) t l=(((qc2 (qdQ a u) d c t l).1,a,u),(qc2 (qdQ a u) d c t l).2)
 |0,c,t,l=>rfl
 |d+1,c,t,l=>by
  have hk:∀(lab:Bool) (ks:List Tm) (j:Nat) (c:Int),qfz (qc2 qiy d) lab l j (c,a,u) ks=(((qfz (qc2 (qdQ a u) d) lab l j c ks).1,a,u),(qfz (qc2 (qdQ a u) d) lab l j c ks).2):=by
   intro lab ks
   induction ks with
   |nil=>intro j c;rfl
   |cons w r ih=>
    intro j c
    simp only[qfz,qm2 a u d,ih]
  simp only[qc2,qiy,hk]
  split<;>rfl
theorem qm3 (a:Int)(ha:a<0)(u:Tm):∀(d c:Nat) (t:Tm) (l:Int),t.size<=d->c+t.size<=1000000000->qc2 (qdQ a u) d (.ofNat c) t l=(.ofNat (c+t.size),t)
 |0,c,t,l,h,_=>by have:=Tm.size_pos t;omega
 |d+1,c,t,l,h,hc=>by
  have hk:∀(lab:Bool) (ks:List Tm) (j c:Nat),(∀u∈ks,u.size<=d)->c+Tm.sizeL ks<=1000000000->qfz (qc2 (qdQ a u) d) lab l j (.ofNat c) ks=(.ofNat (c+Tm.sizeL ks),ks):=by
   intro lab ks
   induction ks with
   |nil=>intro j c _ _;rfl
   |cons w r ih=>
    intro j c hu hc
    simp only[Tm.sizeL] at hc
    have h1:=qm3 a ha u d c w (if lab&&decide (j=0) then l+1 else l) (hu w (zav ..)) (by omega)
    have ih:=ih (j+1) (c+w.size) (fun v hv=>hu v (zaw _ hv)) (by omega)
    simp only[qfz,h1,ih,Tm.sizeL]
    rw[show c+w.size+Tm.sizeL r=c+(w.size+Tm.sizeL r) by omega]
  have hsz:=Tm.size_ks t
  unfold qc2
  rw[qmV (by omega),if_neg (show¬Int.ofNat c=a from fun h=>by rw[<-h] at ha;simp only[zaf] at ha;omega)]
  simp only[if_true]
  rw[hk _ t.ks 0 (c+1) (fun v hv=>by have:=Tm.sizeL_mem hv;omega) (by omega),Tm.with_ks,show c+1+Tm.sizeL t.ks=c+t.size by omega]
theorem qpU (a:Int)(u t:Tm)(hs:t.size<=100000):(qc2 (qdQ a u) t.size 0 t 0).2=qhB u a t:=by
 unfold qhB
 by_cases h0:0<=a
 ·obtain⟨b,rfl⟩:∃b:Nat,a=Int.ofNat b:=⟨a.toNat,by simp only[zaf];omega⟩
  have hp:=qmW b u t.size 0 t 0 (zan _) (by omega)
  by_cases hb:b<t.size
  ·rw[PutR.inn (by omega)] at hp
   obtain⟨c',e,_⟩:=hp
   have e:qc2 (qdQ (.ofNat b) u) t.size 0 t 0=_:=e
   rw[e,if_pos (by simp only[zaf];omega)]
   rfl
  ·rw[PutR.out (by omega)] at hp
   have hp:qc2 (qdQ (.ofNat b) u) t.size 0 t 0=_:=hp
   rw[hp,if_neg (by simp only[zaf];omega)]
 ·rw[if_neg (by omega)]
  have e:qc2 (qdQ a u) t.size 0 t 0=_:=qm3 a (by omega) u t.size 0 t 0 (zan _) (by omega)
  rw[e]
end Go.AI
namespace Go.AI.Tryz
def RP2 (q:Nat×qaU)(c:Int×Int×Tm)(E:qaU)(s:ASt):Prop:=RP c.2.1 c.2.2 q c.1 E s
theorem qvA (d:Nat):Ev fun n=>∀q,ByC (RP2 q) qiy (.func 115 [] [.ptr (q.1+2) 0,.ptr q.1 0,.ptr (q.1+1) 0]) (fun _=>True) n d:=by
 refine Ev.succ ((Ev.ge 1).mono fun n hn q c E s t l h1 h2 h3 h4 hr=>?_)
 obtain⟨c,a,u⟩:=c
 obtain⟨N,H0⟩:=q
 unfold RP2 RP at hr
 simp only at hr
 rw[qhS CP (by omega),qb0]
 simp only[zaQ,zaP]
 let s2:ASt:={s with heap:=(N+2,.cells [i64 (qbb .i64 (c+1))])::(N+1,.cells u.c)::(N,.cells [i64 a])::H0}
 refine⟨s2,?_,rfl,TF.refl s⟩
 refine qfn (cf:=cf115) (np:=5) (args':=[t.v,i64 l,.ptr (N+2) 0,.ptr N 0,.ptr (N+1) 0]) (by kernel_rfl) (by kernel_rfl) rfl (by simp only[zap,qal];rfl) (by simp only[zam,qai];rfl) ((s115_eq _ _ _ _ _ _ _ _).trans (?_:_=some (.tuple [(qdQ a u c t l).2.1.v,bl (qdQ a u c t l).2.2],s2))) (qb1 _ _) (by rw[Tm.v_eq];rfl)
 have hst:stH s (.ptr (N+2) 0) [i64 (qbb .i64 (c+1))]=some s2:=qrk hr rfl rfl
 have c1:qas (qag CP n E).E s (N+2)=some [i64 c]:=qaX hr
 have c2:qas (qag CP n E).E s2 (N+2)=some [i64 (qbb .i64 (c+1))]:=qaX rfl
 have c3:qas (qag CP n E).E s2 (N+1)=some u.c:=by rw[qbB (s:=s2) rfl (by omega)];exact qaX rfl
 have c4:qas (qag CP n E).E s2 N=some [i64 a]:=by rw[qbB (s:=s2) rfl (by omega),qbB rfl (by omega)];exact qaX rfl
 unfold s115 qdQ
 by_cases ha:qbb .i64 (qbb .i64 (c+1)-1)=a
 ·simp only[ldP c1,ldP c2,ldP c3,ldP c4,qcG,qbM,hst,ha,if_true,qah,qaS,qau,qad,qaf,qay,qa0,decide_true,qaa,cond_true,zab,zaa]
 ·simp only[ldP c1,ldP c2,ldP c3,ldP c4,qcG,qbM,hst,ha,if_false,qah,qaS,qau,qad,qaf,qay,qa0,decide_false,qaa,cond_false,zab,zaa]
theorem qrz (D:Nat)(hD:D<=900000):UC 60 (fun t:Tm=>[t.v]) (fun t _ _=>t.size<=D) (fun t=>t.v):=by
 refine UC.of (cf:=cf60) (np:=1) (by kernel_rfl) (by kernel_rfl) (fun _=>rfl) (fun _=>by simp only[zap,qal];rfl) (fun _=>by simp only[zam,qai];rfl) (fun _=>Stab.pure _) (fun t lo=>qaM lo _)
  ((qdZ (R:=fun _ _ _ _=>True) (fv:=fun _=>_) (fun _ _ _ _ _ _ _ _=>trivial) (fun _=>rfl) (fun _=>rfl) (fun _ t _ _ _=>⟨zan _,fun _ _=>trivial⟩) D (qps (g:=fun t _=>(t,true)) (Ad:=fun _=>True) (d:=D) qkL)).mono fun n h t E s hs=>?_)
 obtain⟨s',h',_,_⟩:=h () () E s t 0 hs trivial (by omega) (by omega) trivial
 have e:=qgt (σ:=Unit) (fun t _=>t) (fun _ _=>⟨rfl,rfl⟩) D () t 0 hs
 rw[show(fun(x:Unit) (t:Tm) (l:Int)=>(x,(fun(t:Tm) (_:Int)=>(t,true)) t l))=fun x t l=>(x,(fun(t:Tm) (_:Int)=>t) t l,true) from rfl,e,qpq t.size t 0 (zan _)] at h'
 refine⟨t.v,s',(s60_eq _ _ _ _).trans ?_,qai _⟩
 unfold s60
 simp only[h',qah,qaS,qau,zaa,qab]
theorem qxd (t:Tm)(hs:t.size<=100000):UC 66 (fun p:Int×Tm=>[t.v,i64 p.1,p.2.v]) (fun p _ _=>p.2.size<=100000) (fun p=>(qhB p.2 p.1 t).v):=by
 refine UC.of (cf:=cf66) (np:=3) (by kernel_rfl) (by kernel_rfl) (fun _=>rfl) (fun _=>by simp only[zap,qal];rfl) (fun _=>by simp only[zam,qai];rfl) (fun _=>Stab.pure _) (fun t lo=>qaM lo _)
  (((qdZ (κ:=Nat×qaU) (R:=RP2) (by_:=qiy) (Ad:=fun _=>True) (fv:=fun q=> .func 115 [] [.ptr (q.1+2) 0,.ptr q.1 0,.ptr (q.1+1) 0]) (fun q x E s s' r e1 e2=>by unfold RP2 RP at r⊢;rw[e1];exact r) (fun _=>rfl) (fun _=>rfl) (fun c t l _ hgo=>by
   unfold qiy qdQ at hgo⊢
   split
   ·rename_i h;simp only[h,if_true] at hgo;cases hgo
   ·exact⟨zan _,fun _ _=>trivial⟩) t.size (qvA t.size)).and (qrz 200000 (by omega))).mono fun n ⟨h,hcp⟩ p E s hp=>?_)
 obtain⟨a,u⟩:=p
 simp only at hp⊢
 let s14:=qak (qak (qak s (.cells [i64 a])) (.cells u.c)) (.cells [i64 0])
 obtain⟨s',e1,e2,_⟩:=h (s.next,s.heap) (0,a,u) E s14 t 0 (zan _) trivial (by omega) (by omega) rfl
 rw[qm2] at e1
 simp only[qpU a u t hs] at e1
 have hcp':=hcp (qhB u a t) E s' (by have:=qpT u a t;omega)
 have hst:stH (qak (qak (qak s (.cells [i64 a])) (.cells u.c)) (.cells [i64 0])) (.ptr (qak (qak s (.cells [i64 a])) (.cells u.c)).next 0) [i64 0]=some s14:=qlJ _ _ _ _ _ rfl rfl
 have haw:[i64 a].all qaY=true:=rfl
 have e1':cl (qag CP n E) 108 [t.v,i64 0,.func 115 [] [.ptr (qak (qak s (.cells [i64 a])) (.cells u.c)).next 0,.ptr s.next 0,.ptr (qak s (.cells [i64 a])).next 0]] s14=some ((qhB u a t).v,s'):=e1
 refine⟨(qhB u a t).v,s',(s66_eq _ _ _ _ _ _).trans ?_,qai _⟩
 unfold s66
 simp only[haw,qbM,hst,e1',hcp',qah,qaS,qau,qu9,zaa,qab,qbd,qbx,cnd]
end Go.AI.Tryz
namespace Go.AI.Tryz
abbrev rv (w:Rw):zA:=.agg [u8 w.1,i64 w.2]
theorem qpV (ng:Bool)(v w:Rw):eqs [1,1] ng (rv v) (rv w)=some (bl (cond ng (!(decide (v.1=w.1)&&decide (v.2=w.2))) (decide (v.1=w.1)&&decide (v.2=w.2)))):=by
 have h1:∀k a b,qsv (.int k a) (.int k b)=some (decide (a=b)):=fun k a b=>by
  show cond (keq k k) (some (ieq a b)) none=_
  rw[qcC];cases k<;>rfl
 have h2:∀k a b,eqK 1 (.p (.int k a)) (.p (.int k b))=some (decide (a=b)):=fun k a b=>by rw[<-h1 k a b];rfl
 unfold eqs pu
 simp only[qaG,qsu,Arg.ev,qne,h2,zaa]
 cases decide (v.1=w.1)<;>cases decide (v.2=w.2)<;>cases ng<;>rfl
theorem qtE (w:Rw):UC 97 (fun p:Int×Nat=>[u8 p.1,.ptr p.2 0]) (fun p E s=>qas E s p.2=some [u8 w.1,i64 w.2]) (fun p=>bl (decide (p.1=w.1))):=by
 refine UC.of (cf:=cf97) (np:=2) (by kernel_rfl) (by kernel_rfl) (fun _=>rfl) (fun _=>rfl) (fun _=>rfl) (fun p=>Stab.at p.2 _) (fun _ _=>rfl) (Ev.of fun n p E s hc=>⟨bl (decide (p.1=w.1)),s,(s97_eq _ _ _ _ _).trans ?_,rfl⟩)
 have hc':qas (qag CP n E).E s p.2=some [u8 w.1,i64 w.2]:=by rw[qa7];exact hc
 have hl:ldL [u8 w.1,i64 w.2] 0 none=some (u8 w.1):=rfl
 unfold s97
 simp only[ldP hc',hl,zaF,qad,qaf,zab,zaa,qbv]
abbrev ZC:List zA:=[u8 0,i64 0,i64 0,i64 0,.sl 0 [] .full]
def qkS (t:Tm)(w:Rw)(y:Option Tm)(o:Of):Option Tm×Bool:=if decide (o.1=w.1)&&decide (o.2.1=w.2) then(some (qhB o.2.2 w.2 t),false) else(y,true)
def qfV (a:Ar)(t:Tm)(w:Rw):Option Tm:=(qbF (qkS t w) none (qdx (fun k=>decide (k=w.1)) 0 (qbp t (qaE a)))).1
def xOf:Option Tm->EX
 |none=> .normal
 |some _=> .ret
def cOf:Option Tm->List zA
 |none=>ZC
 |some r=>r.c
def U55 (x:Vw)(t:Tm)(w:Rw)(q:K27)(y:Option Tm)(E H:qaU)(tk:Nat×List (Nat×Nat×Nat)):Prop:=
 (q.1.get qaq 4=.ptr q.2.2.1 0/\q.1.get qaq 5=.ptr (q.2.2.1+1) 0/\q.1.get qaq 6=.ptr (q.2.2.1+2) 0/\q.1.get qaq 7=.ptr (q.2.2.1+3) 0/\(∀t,t<31->q.1.has t=true)/\(∀i,q.2.1.get (0,[]) i=(0,[]))/\q.2.1.has 1=true/\q.2.1.has 2=true)/\
 H=(q.2.2.1+6,.loop (qqo (xOf y)) (qfb (xOf y)) q.1 q.2.1 [17,18] ra55 rb55)::(q.2.2.1+5,.cells [.func 97 [] [.ptr (q.2.2.1+1) 0]])::(q.2.2.1+4,.cells x.c)::(q.2.2.1+3,.cells [bl y.isSome])::(q.2.2.1+2,.cells (cOf y))::(q.2.2.1+1,.cells [u8 w.1,i64 w.2])::(q.2.2.1,.cells t.c)::q.2.2.2
theorem qtF (x:Vw)(t:Tm)(w:Rw)(hs:t.size<=100000):Ev fun n=>YC (fun q:K27=>q.2.2.1+7) (fun q=> .yield (q.2.2.1+6)) (U55 x t w) (qkS t w) (fun u=>u.size<=100000) (fun _ y=>y=none) n:=by
 refine Ev.succ (((qxd t hs).and (Ev.ge 1)).mono fun n ⟨hput,hn⟩ q y E H pre s o m hos hh hpre hN hU hlv=>?_)
 subst hlv
 obtain⟨fr,lo,N,H0⟩:=q
 obtain⟨⟨f4,f5,f6,f7,fh,l0,l1h,l2h⟩,hH⟩:=hU
 simp only at f4 f5 f6 f7 fh l0 l1h l2h hH hpre hN
 subst hH
 obtain⟨k,at_,u⟩:=o
 simp only at hos
 have hpl:∀v∈pre,v.1≠N+6:=fun v hv=>by have:=hpre v hv;omega
 let LP:zH:=.loop 1 none fr lo [17,18] ra55 rb55
 let base:qaU:=(N+1,.cells [u8 w.1,i64 w.2])::(N,.cells t.c)::H0
 let P:qaU:=pre++[(N+6,LP),(N+5,.cells [.func 97 [] [.ptr (N+1) 0]]),(N+4,.cells x.c)]
 let hp:Option Tm->Bool->qaU:=fun r b=>P++(N+3,.cells [bl b])::(N+2,.cells (cOf r))::base
 let uf:ASt->ASt:=fun s=>{s with heap:=pre++(N+6,LP)::(N+5,.cells [.func 97 [] [.ptr (N+1) 0]])::(N+4,.cells x.c)::(N+3,.cells [bl false])::(N+2,.cells ZC)::base}
 have hP:∀v∈P,N+3<v.1:=by
  intro v hv
  simp only[P,zaO,zaE,zaH,or_false] at hv
  rcases hv with hv|rfl|rfl|rfl
  ·have:=hpre v hv;omega
  ·simp only;omega
  ·simp only;omega
  ·simp only;omega
 have hu0:(uf s).heap=hp none false:=by simp only[uf,hp,P,base,cOf,zaT,zaP,zaQ]
 have hc1:∀(m:Nat) r b (s':ASt),s'.heap=hp r b->qas (qag CP m E).E s' (N+1)=some [u8 w.1,i64 w.2]:=fun m r b s' h=>qgu (pre:=P++[(N+3,.cells [bl b]),(N+2,.cells (cOf r))]) (H:=(N,.cells t.c)::H0) (by rw[h];simp only[hp,base,zaT,zaP,zaQ]) (by
  intro v hv
  simp only[zaO,zaE,zaH,or_false] at hv
  rcases hv with hv|rfl|rfl
  ·have:=hP v hv;omega
  ·simp only;omega
  ·simp only;omega)
 have hc0:∀(m:Nat) r b (s':ASt),s'.heap=hp r b->qas (qag CP m E).E s' N=some t.c:=fun m r b s' h=>qgu (pre:=P++[(N+3,.cells [bl b]),(N+2,.cells (cOf r)),(N+1,.cells [u8 w.1,i64 w.2])]) (H:=H0) (by rw[h];simp only[hp,base,zaT,zaP,zaQ]) (by
  intro v hv
  simp only[zaO,zaE,zaH,or_false] at hv
  rcases hv with hv|rfl|rfl|rfl
  ·have:=hP v hv;omega
  ·simp only;omega
  ·simp only;omega
  ·simp only;omega)
 let r:Tm:=qhB u w.2 t
 let sA:ASt:={uf s with heap:=hp (some r) false}
 let sB:ASt:={uf s with heap:=hp (some r) true}
 have st2:stH (uf s) (.ptr (N+2) 0) r.c=some sA:=by
  have:=qru (s:=uf s) (pre:=P++[(N+3,.cells [bl false])]) (l:=N+2) (o:=0) (zs:=ZC) (cs:=r.c) (new:=r.c) (H:=base) (by rw[hu0];simp only[hp,cOf,zaT,zaP,zaQ]) (by
   intro v hv
   simp only[zaO,zaE,zaH,or_false] at hv
   rcases hv with hv|rfl
   ·have:=hP v hv;omega
   ·simp only;omega) rfl rfl
  rw[this]
  simp only[sA,hp,cOf,zaT,zaP,zaQ]
 have st3:stH sA (.ptr (N+3) 0) [bl true]=some sB:=by
  have:=qru (s:=sA) (pre:=P) (l:=N+3) (o:=0) (zs:=[bl false]) (cs:=[bl true]) (new:=[bl true]) (H:=(N+2,.cells r.c)::base) rfl (by
   intro v hv
   have:=hP v hv;omega) rfl rfl
  rw[this]
  rfl
 have e1:zA.cells (some 2) (rwV (k,at_,u))=some [u8 k,i64 at_]:=rfl
 have l2:ldL [u8 k,i64 at_] 0 (some 2)=some (rv (k,at_)):=rfl
 have l2w:ldL [u8 w.1,i64 w.2] 0 (some 2)=some (rv w):=rfl
 have l1w:ldL [u8 w.1,i64 w.2] 1 none=some (i64 w.2):=rfl
 have st2':stH (uf s) (.ptr (N+2) 0) (qhB u w.2 t).c=some sA:=st2
 have hput':=hput (w.2,u) E (uf s) hos
 simp only at hput'
 have hx:∃s2,quS 31 3 (qag CP n E) n ra55 rb55 uf ((17,rwV (k,at_,u))::(18,u.v)::[(4,.ptr N 0),(5,.ptr (N+1) 0),(6,.ptr (N+2) 0),(7,.ptr (N+3) 0)]) [(1,(0,[])),(2,(0,[]))] s=some (qlw (xOf (qkS t w none (k,at_,u)).1),s2)/\s2.heap=hp (qkS t w none (k,at_,u)).1 (qkS t w none (k,at_,u)).1.isSome/\s2.next=s.next:=by
  by_cases hm:(decide (k=w.1)&&decide (at_=w.2))=true
  ·have hst:qkS t w none (k,at_,u)=(some r,false):=by unfold qkS;rw[if_pos hm]
   rw[hst]
   refine⟨sB,(y55_eq (qag CP n E) n uf N (N+1) (N+2) (N+3) (rwV (k,at_,u)) u.v s).trans ?_,rfl,rfl⟩
   unfold y55
   simp only[e1,qlx,l2,ldP (hc1 n none false (uf s) hu0),ldP (hc0 n none false (uf s) hu0),l2w,l1w,qpV,hm,hput',st2',st3,qcd,qah,qaS,qau,zak,qaa,cond_true,cond_false,zaa,qab]
   rfl
  ·have hst:qkS t w none (k,at_,u)=(none,true):=by unfold qkS;rw[if_neg hm]
   have hm:(decide (k=w.1)&&decide (at_=w.2))=false:=by simpa using hm
   rw[hst]
   refine⟨uf s,(y55_eq (qag CP n E) n uf N (N+1) (N+2) (N+3) (rwV (k,at_,u)) u.v s).trans ?_,hu0,rfl⟩
   unfold y55
   simp only[e1,qlx,l2,ldP (hc1 n none false (uf s) hu0),ldP (hc0 n none false (uf s) hu0),l2w,l1w,qpV,hm,qcd,qah,qaS,qau,zal,qaa,cond_false,zaa]
   rfl
 obtain⟨s2,hrun,hs2,hs2n⟩:=hx
 generalize hr:qkS t w none (k,at_,u)=R at hrun hs2
 have hgo:qjG (xOf R.1)=R.2/\(R.2=true->R.1=none):=by
  subst hr
  unfold qkS
  split<;>exact⟨rfl,by simp⟩
 have hs2':s2.heap=pre++(N+6,.loop 1 none fr lo [17,18] ra55 rb55)::((N+5,.cells [.func 97 [] [.ptr (N+1) 0]])::(N+4,.cells x.c)::(N+3,.cells [bl R.1.isSome])::(N+2,.cells (cOf R.1))::base):=by
  rw[hs2];simp only[hp,P,LP,base,zaT,zaP,zaQ]
 have hy:=qty (n:=n) (nt:=31) (nl:=3) (E:=E) (ly:=N+6) (fr:=fr) (lo:=lo) (pre:=pre) (F0:=[(4,.ptr N 0),(5,.ptr (N+1) 0),(6,.ptr (N+2) 0),(7,.ptr (N+3) 0)]) (L:=[(1,(0,[])),(2,(0,[]))]) (v1:=rwV (k,at_,u)) (v2:=u.v) (x:=xOf R.1) (by kernel_rfl) (by kernel_rfl) (by omega) (by omega) (by omega) hh hpl
  (fun t u hu=>by
   simp only[qao] at hu
   split at hu
   ·rename_i e;subst e;rw[f4];simpa using hu
   ·split at hu
    ·rename_i e;subst e;rw[f5];simpa using hu
    ·split at hu
     ·rename_i e;subst e;rw[f6];simpa using hu
     ·split at hu
      ·rename_i e;subst e;rw[f7];simpa using hu
      ·cases hu) fh
  (fun i p hi=>by
   simp only[qao] at hi
   split at hi
   ·rename_i e;subst e
    simp only[zac] at hi
    subst hi
    exact⟨l0 _,l1h⟩
   ·split at hi
    ·rename_i e;subst e
     simp only[zac] at hi
     subst hi
     exact⟨l0 _,l2h⟩
    ·cases hi) (by simp only[zap,qal];rfl) hrun hs2'
 rw[hgo.1] at hy
 refine⟨_,_,hy,rfl,hs2n,⟨⟨f4,f5,f6,f7,fh,l0,l1h,l2h⟩,rfl⟩,hgo.2⟩
end Go.AI.Tryz
namespace Go.AI.Tryz
theorem qxe {x:Vw}{t:Tm}{w:Rw}{q:K27}{y:Option Tm}{E H:qaU}{tk:Nat×List (Nat×Nat×Nat)}(h:U55 x t w q y E H tk):qdl E H (q.2.2.1+1)=some [u8 w.1,i64 w.2]:=by
 obtain⟨_,rfl⟩:=h
 rw[qcf (by omega),qcf (by omega),qcf (by omega),qcf (by omega),qcf (by omega),qhr]
theorem qxf (x:Vw)(t:Tm)(w:Rw)(q:K27)(y:Option Tm)(E H:qaU)(tk:Nat×List (Nat×Nat×Nat))(h:U55 x t w q y E H tk):qdl E H (q.2.2.1+4)=some x.c/\q.2.2.1+4<q.2.2.1+7:=by
 obtain⟨_,rfl⟩:=h
 exact⟨by rw[qcf (by omega),qcf (by omega),qhr],by omega⟩
theorem qxg (x:Vw)(t:Tm)(w:Rw)(q:K27)(y:Option Tm)(E H:qaU)(tk:Nat×List (Nat×Nat×Nat))(h:U55 x t w q y E H tk):qdl E H (q.2.2.1+5)=some [.func 97 [] [.ptr (q.2.2.1+1) 0]]/\q.2.2.1+5<q.2.2.1+7:=by
 obtain⟨_,rfl⟩:=h
 exact⟨by rw[qcf (by omega),qhr],by omega⟩
theorem qvB (x:Vw)(t:Tm)(w:Rw):Ev fun n=>SmC (fun q:K27=>q.2.2.1+7) (fun q=> .func 97 [] [.ptr (q.2.2.1+1) 0]) (U55 x t w) (fun k=>decide (k=w.1)) n:=
 ((qtE w).and (Ev.ge 1)).mono fun n ⟨h,hn⟩ q y E H pre s i hi hh hp hU=>by
  rw[qhS CP hn]
  refine h (.ofNat (i+1),q.2.2.1+1) E s ?_
  rw[qe2 hh (fun v hv=>by have:=hp v hv;simp only at this;omega)]
  exact qxe hU
theorem qpW {a:Ar}{t:Tm}(hc:qbW a t=0)(ok:t.Ok)(h1:a.ids.length<=100000)(hs:t.size<=100000)(hg:∀p∈qbp t (qaE a),p.1.top<=Int.ofNat p.1.ids.length):∀p∈qbp t (qaE a),∀i,i<22->∀u,qbm i p.1 p.2=some u->u.size<=100000:=by
 intro p hp i hi u hu
 obtain⟨hn,hsz⟩:=qfv _ t (qaE a) (zan _) (qjq hc ok h1 hs) p hp
 have:=(keep hn (hg p hp) hi hu).le
 omega
mutual
theorem qkT:∀(t:Tm) (x:Sc),x.top<=Int.ofNat x.ids.length->∀p∈qbp t x,p.1.top<=Int.ofNat p.1.ids.length
 |.mk k n m i ks,x,hx=>by
  intro p hp
  rw[qbp] at hp
  rcases zaE.1 hp with rfl|hp
  ·exact hx
  ·refine qiz ks _ 0 (fun j=>?_) p hp
   unfold Sc.kid
   split
   ·simp only[Sc.with,zay,zar,zaC,zaf] at hx⊢;omega
   ·split
    ·simp only[Sc.with,zay,zar,zaC,zaf] at hx⊢;omega
    ·split
     ·exact hx
     ·exact hx
theorem qiz:∀(ks:List Tm) (sc:Nat->Sc) (j:Nat),(∀j,(sc j).top<=Int.ofNat (sc j).ids.length)->∀p∈qbf sc j ks,p.1.top<=Int.ofNat p.1.ids.length
 |[],_,_,_=>by intro p hp;simp only[qbf] at hp;cases hp
 |u::r,sc,j,hx=>by
  intro p hp
  simp only[qbf,zaO] at hp
  rcases hp with hp|hp
  ·exact qkT u _ (hx j) p hp
  ·exact qiz r sc (j+1) hx p hp
end
theorem qoy (a:Ar)(t:Tm):∀p∈qbp t (qaE a),p.1.top<=Int.ofNat p.1.ids.length:=qkT t _ (by simp only[qaE,za1];exact Int.le_refl _)
theorem qvC (a:Ar)(t:Tm)(w:Rw)(oa:a.Ok)(ok:t.Ok)(h1:a.ids.length<=100000)(hs:t.size<=100000)(hc:qbW a t=0):PC CP 55 [a.v,t.v,rv w] (qcM (qfV a t w)):=by
 have hav:zA.cells (some 4) a.v=some [.p (.sl a.ids.length (qaQ Ty.cells a.ids)),bl a.root.cell,i64 a.root.n,bl a.jumps]:=rfl
 have hal:ldL [.p (.sl a.ids.length (qaQ Ty.cells a.ids)),bl a.root.cell,i64 a.root.n,bl a.jumps] 0 (some 4)=some a.v:=rfl
 have hnd:=qjq hc ok h1 hs
 let x:=vw (qaE a) t
 have hoff:=qpD (κ:=K27) (N0:=fun q=>q.2.2.1+7) (l4:=fun q=>q.2.2.1+4) (l7:=fun q=>q.2.2.1+5) (yv:=fun q=> .yield (q.2.2.1+6)) (someV:=fun q=> .func 97 [] [.ptr (q.2.2.1+1) 0]) (U:=U55 x t w) (st:=qkS t w) (sm:=fun k=>decide (k=w.1)) (OS:=fun u=>u.size<=100000) (live:=fun _ y=>y=none) hnd (by omega) (fun m y h=>h) (fun _=>rfl) (fun _=>rfl) (fun _=>rfl) (fun _=>rfl) (qxg x t w) (qxf x t w) (qpW hc ok h1 hs (qoy a t)) (qtF x t w hs) (qvB x t w)
 refine PC.of2 (cf:=cf55) (np:=3) (args':=[a.v,t.v,rv w]) (by kernel_rfl) (by kernel_rfl) rfl (by simp only[zap,qal];rfl) (by simp only[zam,qai];rfl) (fun lo=>qaR lo _)
  (((qsk a t h1).and ((qpE (ι:=Nat) x (fun N=> .func 97 [] [.ptr (N+1) 0]) (fun _=>rfl) (fun _=>rfl) (fun _=>rfl) (fun _=>rfl)).and (hoff.and (nothing_c.and (Ev.ge 1))))).mono fun n ⟨hl,ho,hoff,hnone,hn⟩ E s=>?_)
 let N:=s.next
 let s14:=qak (qak (qak (qak s (.cells t.c)) (.cells [u8 w.1,i64 w.2])) (.cells ZC)) (.cells [bl false])
 let s21:=qak (qak s14 (.cells x.c)) (.cells [.func 97 [] [.ptr (N+1) 0]])
 let R:=qfV a t w
 suffices s55 (qag CP n E) n a.v t.v (rv w) s=some (qcM R,s21) from⟨_,s21,(s55_eq _ _ _ _ _ _).trans this,qaN _⟩
 have hrf:∀(F:FL) (L:LL) (kn kx kr:ASt->Res),qar F 4=some (.ptr N 0)->qar F 5=some (.ptr (N+1) 0)->qar F 6=some (.ptr (N+2) 0)->qar F 7=some (.ptr (N+3) 0)->(∃p,qar L 1=some p)->(∃p,qar L 2=some p)->
   (∀(s':ASt) (P H:qaU),s'.heap=P++(N+3,.cells [bl R.isSome])::(N+2,.cells (cOf R))::H->(∀v∈P,N+3<v.1)->∃s2 r',qaF r'=qcM R/\(match R with|none=>kn s'=some (r',s2)|some _=>kr s'=some (r',s2)))->
   qoM (qag CP n E) n 31 (.func 94 [] [.ptr (N+4) 0,.ptr (N+5) 0]) [17,18] ra55 rb55 F L s21 kn kx kr (qcM R):=by
  intro F L kn kx kr hF4 hF5 hF6 hF7 ⟨p1,hL1⟩ ⟨p2,hL2⟩ hkn
  refine qxb hn fun fr lo hF hh hlo hL=>?_
  let LP:Option Tm->zH:=fun y=> .loop (qqo (xOf y)) (qfb (xOf y)) fr lo [17,18] ra55 rb55
  have hU:U55 x t w (fr,lo,N,s.heap) none E (qak s21 (LP none)).heap (qrr (qak s21 (LP none))):=⟨⟨hF 4 _ hF4,hF 5 _ hF5,hF 6 _ hF6,hF 7 _ hF7,hh,hlo,hL 1 _ hL1,hL 2 _ hL2⟩,rfl⟩
  obtain⟨s',pre',H',e1,e2,e3,e4,⟨_,hH'⟩⟩:=hoff (fr,lo,N,s.heap) none E (qak s21 (LP none)) (zan _) hU rfl
  have hR:(qbF (qkS t w) none (qdx (fun k=>decide (k=w.1)) 0 (qbp t (qaE a)))).1=R:=rfl
  rw[hR] at hH'
  subst hH'
  simp only at e2 e3
  obtain⟨s2,r',her,hk⟩:=hkn {s' with heap:=pre'++(s21.next,.gone)::(N+5,.cells [.func 97 [] [.ptr (N+1) 0]])::(N+4,.cells x.c)::(N+3,.cells [bl R.isSome])::(N+2,.cells (cOf R))::(N+1,.cells [u8 w.1,i64 w.2])::(N,.cells t.c)::s.heap}
   (pre'++[(s21.next,.gone),(N+5,.cells [.func 97 [] [.ptr (N+1) 0]]),(N+4,.cells x.c)]) ((N+1,.cells [u8 w.1,i64 w.2])::(N,.cells t.c)::s.heap) (by simp only[zaT,zaP,zaQ]) (by
   intro v hv
   simp only[zaO,zaE,zaH,or_false] at hv
   rcases hv with hv|rfl|rfl|rfl
   ·have:=e3 v hv;omega
   ·show N+3<N+1+1+1+1+1+1;omega
   ·show N+3<N+5;omega
   ·show N+3<N+4;omega)
  refine⟨xOf R,s',pre',_,s2,r',e1,e2,fun v hv=>by have:=e3 v hv;show v.1≠N+1+1+1+1+1+1;omega,her,?_⟩
  generalize R=R' at hk⊢
  cases R' with
  |none=>exact hk
  |some r=>exact hk
 have haw2:zA.cells (some 2) (rv w)=some [u8 w.1,i64 w.2]:=rfl
 have hwa:[u8 w.1,i64 w.2].all qaY=true:=rfl
 have ho':cl (qag CP n E) 54 [x.v,.func 97 [] [.ptr (qak s (.cells t.c)).next 0]] (qak (qak (qak (qak s (.cells t.c)) (.cells [u8 w.1,i64 w.2])) (.cells [u8 0,i64 0,i64 0,i64 0,.sl 0 [] .full])) (.cells [bl false]))=some (.func 94 [] [.ptr (N+4) 0,.ptr (N+5) 0],s21):=ho s.next E s14
 have hl':∀E s,cl (qag CP n E) 65 [a.v,t.v] s=some (x.v,s):=hl
 have hc6:qas (qag CP n E).E (qak (qak (qak (qak s (.cells t.c)) (.cells [u8 w.1,i64 w.2])) (.cells [u8 0,i64 0,i64 0,i64 0,.sl 0 [] .full])) (.cells [bl false])) s.next=some t.c:=by
  show qas _ s14 s.next=_
  rw[qbB (s:=s14) rfl (by show s.next+1+1+1≠s.next;omega),qbB rfl (by show s.next+1+1≠s.next;omega),qbB rfl (by show s.next+1≠s.next;omega)]
  exact qaX rfl
 unfold s55
 simp only[hav,hal,haw2,hwa,ldP hc6,hl',ho',qah,qaS,qu9,zaa,qab,qbd,qbx,cnd,qaB]
 refine qvw 5 2 ?_ (by omega) ?_ (hrf _ _ _ _ _ rfl rfl rfl rfl ⟨_,rfl⟩ ⟨_,rfl⟩ fun s' P H hh hP=>?_)
 ·intro p hp
  simp only[zaE,zaH,or_false] at hp
  rcases hp with rfl|rfl|rfl|rfl|rfl|rfl|rfl|rfl|rfl|rfl|rfl|rfl|rfl|rfl|rfl<;>simp only<;>omega
 ·intro p hp
  simp only[zaE,zaH,or_false] at hp
  rcases hp with rfl|rfl|rfl|rfl<;>simp only<;>omega
 ·have q3:∀v∈P,v.1≠N+3:=fun v hv=>by have:=hP v hv;omega
  have q2:∀(o:zH),∀v∈P++[(N+3,o)],v.1≠N+2:=fun o v hv=>by
   simp only[zaO,zaE,zaH,or_false] at hv
   rcases hv with hv|rfl
   ·have:=hP v hv;omega
   ·show N+3≠N+2;omega
  have r3:∀(s':ASt) b c,s'.heap=P++(N+3,.cells [b])::(N+2,.cells c)::H->qas (qag CP n E).E s' (s.next+3)=some [b]:=fun s' b c h=>qgu h q3
  have r2:∀(s':ASt) b c,s'.heap=P++(N+3,.cells [b])::(N+2,.cells c)::H->qas (qag CP n E).E s' (s.next+2)=some c:=fun s' b c h=>qgu (l:=N+2) (pre:=P++[(N+3,.cells [b])]) (H:=H) (by rw[h];simp only[zaT,zaP,zaQ]) (q2 _)
  generalize R=R' at hh⊢
  cases R' with
  |some r=>
   refine⟨s',.tuple [r.v,bl true],(qaN (some r)),?_⟩
   have a3:qas (qag CP n E).E s' (qak (qak (qak s (.cells t.c)) (.cells [u8 w.1,i64 w.2])) (.cells [u8 0,i64 0,i64 0,i64 0,.sl 0 [] .full])).next=some [bl true]:=r3 s' _ _ hh
   have a2:qas (qag CP n E).E s' (qak (qak s (.cells t.c)) (.cells [u8 w.1,i64 w.2])).next=some r.c:=r2 s' _ _ hh
   simp only[ldP a3,ldP a2,qcG,qaS,zaa]
  |none=>
   let s1:ASt:={s' with heap:=P++(N+3,.cells [bl false])::(N+2,.cells Tm.z.c)::H}
   have w2:stH s' (.ptr (qak (qak s (.cells t.c)) (.cells [u8 w.1,i64 w.2])).next 0) Tm.z.c=some s1:=by
    have:=qru (s:=s') (pre:=P++[(N+3,.cells [bl false])]) (l:=N+2) (o:=0) (zs:=ZC) (cs:=Tm.z.c) (new:=Tm.z.c) (H:=H) (by rw[hh];simp only[cOf,Option.isSome,zaT,zaP,zaQ]) (q2 _) rfl rfl
    simp only[zaT,zaP,zaQ] at this
    exact this
   have w3:stH s1 (.ptr (qak (qak (qak s (.cells t.c)) (.cells [u8 w.1,i64 w.2])) (.cells [u8 0,i64 0,i64 0,i64 0,.sl 0 [] .full])).next 0) [bl false]=some s1:=qru (s:=s1) (l:=N+3) (zs:=[bl false]) rfl q3 rfl rfl
   refine⟨s1,qcM none,qaN none,?_⟩
   have a3:qas (qag CP n E).E s1 (qak (qak (qak s (.cells t.c)) (.cells [u8 w.1,i64 w.2])) (.cells [u8 0,i64 0,i64 0,i64 0,.sl 0 [] .full])).next=some [bl false]:=r3 s1 _ _ rfl
   have a2:qas (qag CP n E).E s1 (qak (qak s (.cells t.c)) (.cells [u8 w.1,i64 w.2])).next=some Tm.z.c:=r2 s1 _ _ rfl
   have hz:zA.cells (some 5) Tm.z.v=some Tm.z.c:=rfl
   have hzl:ldL Tm.z.c 0 (some 5)=some Tm.z.v:=rfl
   simp only[hnone,hz,hzl,w2,w3,ldP a3,ldP a2,qcG,qcd,zaa,qab,qan,qaw,qax,qaB,zaG,zaD]
end Go.AI.Tryz
namespace Go.AI.Tryz
theorem zbd:bd [u8 0,i64 0,i64 0,i64 0,.sl 0 [] .full] []=some (.agg [u8 0,i64 0,i64 0,i64 0,.sl 0 [] .full]):=rfl
theorem qpX:zA.cells (some 5) (.agg [u8 0,i64 0,i64 0,i64 0,.sl 0 [] .full])=some [u8 0,i64 0,i64 0,i64 0,.sl 0 [] .full]:=rfl
theorem qxh:ldL [u8 0,i64 0,i64 0,i64 0,.sl 0 [] .full] 0 (some 5)=some (.agg [u8 0,i64 0,i64 0,i64 0,.sl 0 [] .full]):=rfl
theorem qtG:over [u8 0,i64 0,i64 0,i64 0,.sl 0 [] .full] 0 [u8 0,i64 0,i64 0,i64 0,.sl 0 [] .full]=some [u8 0,i64 0,i64 0,i64 0,.sl 0 [] .full]:=rfl
theorem qc1 (a:Ar):zA.cells (some 4) a.v=some [.p (.sl a.ids.length (qaQ Ty.cells a.ids)),bl a.root.cell,i64 a.root.n,bl a.jumps]:=rfl
theorem qhZ (a:Ar):ldL [.p (.sl a.ids.length (qaQ Ty.cells a.ids)),bl a.root.cell,i64 a.root.n,bl a.jumps] 0 (some 4)=some a.v:=rfl
theorem qsn (w:Rw):zA.cells (some 2) (rv w)=some [u8 w.1,i64 w.2]:=rfl
theorem qxB (w:Rw):ldL [u8 w.1,i64 w.2] 0 (some 2)=some (rv w):=rfl
end Go.AI.Tryz
namespace Go.AI.Tryz
abbrev Y41:=Option (Option Of)
def x41:Y41->EX
 |none=> .normal
 |some none=> .ret
 |some (some _)=> .exit 2
structure K41 (ι:Type) where
 p:ι
 fr:Tr zA
 lo:Tr (Nat×List zA)
 M:Nat
 lf:Nat
 P:qaU
 s0:ASt
end Go.AI.Tryz
namespace Go.AI.Tryz
theorem qfw {sm:Int->Bool}:∀{l:List (Sc×Tm)} {b:Int} {o:Of},o∈qdx sm b l->∃j p i,l[j]? =some p/\o.2.1=b+Int.ofNat j/\i<22/\o.1=Int.ofNat (i+1)/\qbm i p.1 p.2=some o.2.2/\sm o.1=true
 |[],b,o,h=>by simp only[qdx] at h;cases h
 |p::r,b,o,h=>by
  simp only[qdx,zaO] at h
  rcases h with h|h
  ·unfold qdn at h
   rw[List.mem_filterMap] at h
   obtain⟨i,hi,h⟩:=h
   have hi:i<22:=by
    simp only[ruL,zaE,zaH,or_false] at hi
    omega
   split at h
   ·rename_i hs
    rw[zad] at h
    obtain⟨u,hu,rfl⟩:=h
    exact⟨0,p,i,rfl,by simp,hi,rfl,hu,hs⟩
   ·cases h
  ·obtain⟨j,q,i,h1,h2,h3⟩:=qfw h
   exact⟨j+1,q,i,by simpa using h1,by rw[h2];simp only[zaf];omega,h3⟩
structure Right (a:Ar)(t:Tm):Prop where
 c:qbW a t=0
 ok:t.Ok
theorem Right.nd {a:Ar}{t:Tm}(h:Right a t)(h1:a.ids.length<=100000)(hs:t.size<=100000):Nd (qaE a) t:=qjq h.c h.ok h1 hs
theorem qtH {a:Ar}{t:Tm}{sm:Int->Bool}{o:Of}(h:Right a t)(h1:a.ids.length<=100000)(hs:t.size<=100000)(ho:o∈qdx sm 0 (qbp t (qaE a))):Right a (qhB o.2.2 o.2.1 t)/\(qhB o.2.2 o.2.1 t).size<=t.size:=by
 have hnd:=h.nd h1 hs
 obtain⟨j,p,i,hj,ha,hi,_,hu,_⟩:=qfw ho
 have hp:=zaN hj
 obtain⟨hn,hsz⟩:=qfv _ t _ (zan _) hnd p hp
 have g:=keep hn (qoy a t p hp) hi hu
 have hjl:j<t.size:=by rw[<-qbP t (qaE a)];exact(zao.1 hj).1
 have hshu:Sh o.2.2:=qda (x:=p.1) (by rw[<-g.sz];exact g.ok2)
 obtain⟨r1,r2,r3,r4⟩:=qj3 g.ok (Lk.of_ok g.sz g.ok2) hshu t.size t (qaE a) j (zan _) hj hnd
 have e:qhB o.2.2 o.2.1 t=Tm.put1 o.2.2 j t:=by
  unfold qhB
  rw[if_pos (by rw[ha];simp only[zaf];omega),ha]
  congr 1
  simp only[zaf];omega
 have hle:=g.le
 rw[e]
 refine⟨⟨?_,r3⟩,by omega⟩
 have hc:=h.c
 unfold qbW at hc⊢
 split at hc
 ·rename_i h0;exact absurd hc h0
 ·rename_i h0
  rw[if_neg h0]
  split at hc
  ·omega
  ·rename_i h6
   rw[if_neg (by omega),<-r1.2 a.root]
   exact hc
end Go.AI.Tryz
namespace Go.AI.Tryz
section
variable {ι:Type} {fv:ι->zA} {C:ι->qaU->ASt->Prop} {sm:Int->Bool}
abbrev ac (a:Ar):List zA:=[.p (.sl a.ids.length (qaQ Ty.cells a.ids)),bl a.root.cell,i64 a.root.n,bl a.jumps]
end
end Go.AI.Tryz
namespace Go.AI.Tryz
noncomputable def F33 (e:Env) (n:Nat) (x30:zA) (x2:zA):(zA->Nat->Nat->List zA->List zA->List zA->List zA->List zA->List zA->ASt->Res)->zA->Nat->Nat->List zA->List zA->List zA->List zA->List zA->List zA->ASt->Res:=(fun h41 x31 g32 g33 c34 c35 c36 c37 c38 c39 s40=>
 (bn .lss x31 x30).bind fun x42=>
 qae x42 (qac (iaV 2 x2 x31) fun q43 o44=>
 (ldH e s40 (.elem q43 o44) (some 2)).bind fun x45=>
 (zA.cells (some 2) x45).bind fun c46=>
 cnd (Nat.beq (g32+1) (g32+1)) ((over [(u8 0),(i64 0)] 0 c46).bind fun c47=>
 (ldL c34 0 (some 4)).bind fun x48=>
 (ldL c35 0 (some 5)).bind fun x49=>
 cnd (Nat.beq (g32+1) (g32+1)) ((ldL c47 0 (some 2)).bind fun x50=>
 qac (cl e 55 [x48,x49,x50] s40) fun x51 s52=>
 (ex x51 0).bind fun x53=>
 (ex x51 1).bind fun x54=>
 (zA.cells (some 5) x53).bind fun c55=>
 cnd (Nat.beq (g33+1) (g33+1)) ((over [(u8 0),(i64 0),(i64 0),(i64 0),(.sl 0 [] .full)] 0 c55).bind fun c56=>
 (nt x54).bind fun x57=>
 qae x57 ((bd [(u8 0),(i64 0),(i64 0),(i64 0),(.sl 0 [] .full)] []).bind fun x58=>
 (zA.cells (some 5) x58).bind fun c59=>
 (over c36 0 c59).bind fun c60=>
 (ldL c60 0 (some 5)).bind fun x61=>
 some (.tuple [x61,x31,(i64 7)],s52))
 (cnd (Nat.beq (g33+1) (g33+1)) ((ldL c56 0 (some 5)).bind fun x62=>
 (zA.cells (some 5) x62).bind fun c63=>
 (over c35 0 c63).bind fun c64=>
 (bn .add x31 (i64 1)).bind fun x65=>
 h41 x65 (g32+1) (g33+1) c34 c64 c36 c37 c47 c56 s52) none)) none) none) none)
 ((ldL c35 0 (some 5)).bind fun x66=>
 (ln false x2).bind fun x67=>
 (zA.cells (some 5) x66).bind fun c68=>
 (over c36 0 c68).bind fun c69=>
 (ldL c69 0 (some 5)).bind fun x70=>
 some (.tuple [x70,x67,(i64 0)],s40)))
theorem lp33 (e:Env)(n:Nat)(x30 x2:zA):s33_0 e n x30 x2=lp (fun _ _ _ _ _ _ _ _ _ _=>none) (F33 e n x30 x2) n:=rfl
theorem qfW (a:Ar)(t:Tm)(w:Rw):qfV a t w=((qdx (fun k=>decide (k=w.1)) 0 (qbp t (qaE a))).find? fun o=>decide (o.1=w.1)&&decide (o.2.1=w.2)).map fun o=>qhB o.2.2 w.2 t:=by
 unfold qfV
 generalize qdx (fun k=>decide (k=w.1)) 0 (qbp t (qaE a))=l
 induction l with
 |nil=>rfl
 |cons o r ih=>
  simp only[qbF,List.find?_cons]
  by_cases hb:(decide (o.1=w.1)&&decide (o.2.1=w.2))=true
  ·have e:qkS t w none o=(some (qhB o.2.2 w.2 t),false):=by unfold qkS;rw[if_pos hb]
   rw[e,hb];rfl
  ·have e:qkS t w none o=(none,true):=by unfold qkS;rw[if_neg hb]
   have hb:(decide (o.1=w.1)&&decide (o.2.1=w.2))=false:=by simpa using hb
   rw[e,hb]
   exact ih
theorem qlV {a:Ar}{t:Tm}{w:Rw}{r:Tm}(h:Right a t)(h1:a.ids.length<=100000)(hs:t.size<=100000)(e:qfV a t w=some r):Right a r/\r.size<=t.size:=by
 rw[qfW,zad] at e
 obtain⟨o,ho,rfl⟩:=e
 have hm:=List.mem_of_find?_eq_some ho
 have hp:=List.find?_some ho
 simp only[zag,decide_eq_true_eq] at hp
 have:=qtH h h1 hs hm
 rw[hp.2] at this
 exact this
def qfx (a:Ar):List Rw->Tm->Nat->Tm×Int×Int
 |[],t,j=>(t,.ofNat j,0)
 |w::r,t,j=>match qfV a t w with
  |none=>(.z,.ofNat j,7)
  |some t'=>qfx a r t' (j+1)
def qkU (a:Ar)(t:Tm)(ws:List Rw):Tm×Int×Int:=if qbW a t=0 then(if 2000<ws.length then(.z,0,5) else qfx a ws t 0) else(.z,0,qbW a t)
abbrev qnS (r:Tm×Int×Int):zA:=.tuple [r.1.v,i64 r.2.1,i64 r.2.2]
theorem qso (r:Tm×Int×Int):qaF (qnS r)=qnS r:=by rw[qnS,Tm.v_eq];rfl
theorem qiA (lo:Nat)(r:Tm×Int×Int):qeD lo (qnS r)=true:=by rw[qnS,Tm.v_eq];rfl
theorem qkV (a:Ar)(oa:a.Ok)(h1:a.ids.length<=100000)(ws:List Rw)(hw:ws.length<=2000)(c37:List zA):
  ∀(r:List Rw) (t:Tm) (j:Nat),Right a t->t.size<=100000->ws.drop j=r->j<=ws.length->
   Ev fun n=>∀E s k g1 g2 c38 c39,r.length<k->∃v,lp (fun _ _ _ _ _ _ _ _ _ _=>none) (F33 (qag CP n E) n (i64 (.ofNat ws.length)) (logP ws)) k (i64 (.ofNat j)) g1 g2 (ac a) t.c ZC c37 c38 c39 s=some (v,s)/\qaF v=qnS (qfx a r t j)
 |[],t,j,ht,hs,hd,hj=>Ev.of fun n E s k g1 g2 c38 c39 hk=>by
  obtain⟨k,rfl⟩:∃k',k=k'+1:=⟨k-1,by omega⟩
  have hjl:j=ws.length:=by
   have:=congrArg List.length hd
   simp only[List.length_drop,zaC] at this
   omega
  have h3:¬(Int.ofNat j<Int.ofNat ws.length):=fun hh=>by have:=of_lt.1 hh;omega
  refine⟨qnS (qfx a [] t j),?_,qso _⟩
  rw[qa5]
  generalize lp _ _ k=L
  unfold F33
  have ho:over ZC 0 t.c=some t.c:=rfl
  simp only[h3,ho,qfx,qah,qaS,qad,qap,qay,decide_false,qaa,cond_false,zab,zaa,qbo,cnd]
  rw[hjl]
 |w::r,t,j,ht,hs,hd,hj=>by
  have hjl:j<ws.length:=by
   rcases zbi j ws.length with h|h
   ·exact h
   ·rw[List.drop_eq_nil_of_le h] at hd;cases hd
  have hwj:ws[j]=w/\ws.drop (j+1)=r:=by
   rw[zaz hjl] at hd
   simp only[List.cons.injEq] at hd
   exact hd
  have hdn:=qvC a t w oa ht.ok h1 hs ht.c
  have hld:∀n E s,ldH (qag CP n E) s (.elem (qaQ rwC ws) (j*2)) (some 2)=some (rv w):=fun n E s=>by
   have:=qdr (c:=rwC) (sz:=2) (fun _=>rfl) (qag CP n E) s (zah hjl)
   rw[hwj.1] at this
   exact this
  have hov:over [u8 0,i64 0] 0 [u8 w.1,i64 w.2]=some [u8 w.1,i64 w.2]:=rfl
  cases hr:qfV a t w with
  |none=>
   rw[hr] at hdn
   refine hdn.mono fun n hdn E s k g1 g2 c38 c39 hk=>?_
   obtain⟨k,rfl⟩:∃k',k=k'+1:=⟨k-1,by omega⟩
   refine⟨.tuple [.agg [u8 0,i64 0,i64 0,i64 0,.sl 0 [] .full],i64 (.ofNat j),i64 7],?_,by simp only[qfx,hr];rfl⟩
   rw[qa5]
   generalize lp _ _ k=L
   unfold F33
   simp only[of_lt.2 hjl,qbV hjl,hld,qsn,hov,qxB,qhZ,hdn,za6,zbd,qpX,qxh,qtG,qah,qaS,qau,qad,qap,qay,decide_true,zal,qaa,cond_true,zab,zaa,qab,qan,qaw,qax,qam,qbo,cnd,qaB,zaG,zaD]
  |some t'=>
   rw[hr] at hdn
   obtain⟨ht',hs'⟩:=qlV ht h1 hs hr
   refine(hdn.and (qkV a oa h1 ws hw c37 r t' (j+1) ht' (by omega) hwj.2 (by omega))).mono fun n ⟨hdn,ih⟩ E s k g1 g2 c38 c39 hk=>?_
   obtain⟨k,rfl⟩:∃k',k=k'+1:=⟨k-1,by omega⟩
   obtain⟨v,e,he⟩:=ih E s k (g1+1) (g2+1) [u8 w.1,i64 w.2] t'.c (by simp only[zar] at hk;omega)
   refine⟨v,?_,by simp only[qfx,hr];exact he⟩
   rw[qa5]
   generalize lp _ _ k=L at e⊢
   unfold F33
   have ho:over t.c 0 t'.c=some t'.c:=rfl
   simp only[of_lt.2 hjl,qbV hjl,hld,qsn,hov,qxB,qhZ,hdn,za6,ho,qaO (show j<9223372036854775807 by omega),qah,qaS,qau,qad,qap,qay,decide_true,zak,qaa,cond_true,cond_false,zab,zaa,qab,qan,qaw,qax,qam,qbo,cnd,qaB,zaB,zbe]
   exact e
theorem qvD (a:Ar)(t:Tm)(ws:List Rw)(w:zA)(hw:qaF w=logP ws)(hwa:qbG w=true)(hl:ws.length<=100000000)(oa:a.Ok)(ok:t.Ok)(h1:a.ids.length<=100000)(hs:t.size<=100000):PC CP 33 [a.v,t.v,w] (qnS (qkU a t ws)):=by
 unfold qkU
 by_cases hc:qbW a t=0
 ·rw[if_pos hc]
  by_cases hlen:2000<ws.length
  ·rw[if_pos hlen]
   refine PC.of2 (cf:=cf33) (np:=3) (args':=[a.v,t.v,logP ws]) (by kernel_rfl) (by kernel_rfl) rfl (by simp only[zap,qal,hwa];rfl) (by simp only[zam,qai,hw];rfl) (fun lo=>qiA lo _)
    ((qpF a t oa ok h1 hs).mono fun n hlk E s=>⟨.tuple [.agg [u8 0,i64 0,i64 0,i64 0,.sl 0 [] .full],i64 0,i64 5],s,(s33_eq _ _ _ _ _ _).trans ?_,rfl⟩)
   rw[hc] at hlk
   have e:((2000:Int)<Int.ofNat ws.length):=by simp only[zaf];omega
   unfold s33
   simp only[qc1,qhZ,hlk,e,zbd,qpX,qxh,qtG,qah,qaS,qaH,qkJ,qad,qa6,qaC,decide_true,zak,qaa,cond_true,cond_false,zab,zaa,qab,qan,qaw,qax,qbo]
  ·rw[if_neg hlen]
   refine PC.of2 (cf:=cf33) (np:=3) (args':=[a.v,t.v,logP ws]) (by kernel_rfl) (by kernel_rfl) rfl (by simp only[zap,qal,hwa];rfl) (by simp only[zam,qai,hw];rfl) (fun lo=>qiA lo _)
    (((qpF a t oa ok h1 hs).and ((qrj t (by omega)).and ((qkV a oa h1 ws (by omega) (vw (qaE a) t).c ws t 0 ⟨hc,ok⟩ hs rfl (za3 _)).and (Ev.ge 2001)))).mono fun n ⟨hlk,hcp,hlp,hn⟩ E s=>?_)
   rw[hc] at hlk
   obtain⟨v,e,he⟩:=hlp E s n 0 0 [] [] (by omega)
   refine⟨v,s,(s33_eq _ _ _ _ _ _).trans ?_,he⟩
   have e2:¬((2000:Int)<Int.ofNat ws.length):=by simp only[zaf];omega
   have ho:over t.c 0 t.c=some t.c:=rfl
   unfold s33
   simp only[qc1,qhZ,hlk,e2,hcp,ho,qah,qaS,qaH,qkJ,qad,qa6,qaC,decide_true,decide_false,zak,qaa,cond_false,zab,zaa,qab,qan,qaw,qax,qbo]
   rw[lp33]
   exact e
 ·rw[if_neg hc]
  refine PC.of2 (cf:=cf33) (np:=3) (args':=[a.v,t.v,logP ws]) (by kernel_rfl) (by kernel_rfl) rfl (by simp only[zap,qal,hwa];rfl) (by simp only[zam,qai,hw];rfl) (fun lo=>qiA lo _)
   ((qpF a t oa ok h1 hs).mono fun n hlk E s=>⟨.tuple [.agg [u8 0,i64 0,i64 0,i64 0,.sl 0 [] .full],i64 0,i64 (qbW a t)],s,(s33_eq _ _ _ _ _ _).trans ?_,rfl⟩)
  unfold s33
  simp only[qc1,qhZ,hlk,hc,zbd,qpX,qxh,qtG,qah,qaS,qaH,qkJ,qad,qa6,qaC,decide_false,zal,qaa,cond_true,zab,zaa,qab,qan,qaw,qax,qbo]
end Go.AI.Tryz
namespace Go.AI.Tryz
theorem qjs (sm:Int->Bool)(x:Sc)(t:Tm)(b:Int):qdn sm x t b=(qdn qdp x t b).filter fun o=>sm o.1:=by
 unfold qdn
 rw[List.filter_filterMap]
 congr 1
 funext i
 simp only[qdp,if_true]
 cases h:qbm i x t with
 |none=>simp
 |some u=>
  simp only[zab,Option.filter]
theorem qe4 (sm:Int->Bool):∀(l:List (Sc×Tm)) (b:Int),qdx sm b l=(qdx qdp b l).filter fun o=>sm o.1
 |[],b=>rfl
 |p::r,b=>by
  simp only[qdx,List.filter_append]
  rw[qjs,qe4 sm r]
theorem qpY {sm sm':Int->Bool}{l:List (Sc×Tm)}{b:Int}{o p:Of}(ho:o∈qdx sm b l)(hp:p∈qdx sm' b l)(h1:o.1=p.1)(h2:o.2.1=p.2.1):o.2.2=p.2.2:=by
 obtain⟨j,q,i,a1,a2,_,a3,a4,_⟩:=qfw ho
 obtain⟨j',q',i',b1,b2,_,b3,b4,_⟩:=qfw hp
 have hj:j=j':=by
  rw[a2,b2] at h2
  simp only[zaf] at h2
  omega
 subst hj
 rw[a1,zac] at b1
 subst b1
 have hi:i=i':=by
  rw[a3,b3] at h1
  simp only[zaf] at h1
  omega
 subst hi
 rw[a4,zac] at b4
 exact b4
theorem qrA {a:Ar}{t:Tm}{o:Of}(ho:o∈qdx qdp 0 (qbp t (qaE a))):qfV a t (o.1,o.2.1)=some (qhB o.2.2 o.2.1 t):=by
 have hm:o∈qdx (fun k=>decide (k=o.1)) 0 (qbp t (qaE a)):=by
  rw[qe4,List.mem_filter]
  exact⟨ho,by simp⟩
 rw[qfW]
 cases hf:(qdx (fun k=>decide (k=o.1)) 0 (qbp t (qaE a))).find? fun q=>decide (q.1=o.1)&&decide (q.2.1=o.2.1) with
 |none=>
  have:=List.find?_eq_none.1 hf o hm
  simp at this
 |some q=>
  have h1:=List.mem_of_find?_eq_some hf
  have h2:=List.find?_some hf
  simp only[zag,decide_eq_true_eq] at h2
  rw[zab,qpY h1 hm h2.1 h2.2]
inductive St (a:Ar):Tm->List Rw->Tm->Prop where
 |nil (t):St a t [] t
 |cons {t u:Tm} {o:Of} {r:List Of} {L:List Rw} (h:qdx qdp 0 (qbp t (qaE a))=o::r) (k:St a (qhB o.2.2 o.2.1 t) L u):St a t ((o.1,o.2.1)::L) u
end Go.AI.Tryz
namespace Go.AI.Tryz
theorem qpZ {c:Tm->Nat}{most:Nat}:∀(ks:List Tm) (a:Nat),a<=qk7 c most a ks
 |[],a=>zan _
 |t::r,a=>by
  simp only[qk7]
  split
  ·have:=qpZ (c:=c) (most:=most) r (a+c t);omega
  ·exact zan _
theorem qht (most:Nat):∀(d:Nat) (t:Tm),1<=qg8 most d t/\(qg8 most d t<=most->qg8 most d t=t.size)
 |0,t=>⟨by simp only[qg8];omega,fun h=>by simp only[qg8] at h;omega⟩
 |d+1,t=>by
  simp only[qg8]
  refine⟨qpZ t.ks 1,fun h=>?_⟩
  rw[qkD t.ks 1 (fun u _=>(qht most d u).2) (fun u _=>(qht most d u).1) h,Tm.size_ks t]
theorem qnT {a:Ar}{t:Tm}(h:qnC a t=true):a.ids.length<=20/\(∀t∈a.ids,t.ps.length<=20)/\t.size<=700:=by
 simp only[qnC,zag,qnA,decide_eq_true_eq,zaJ,qlE] at h
 refine⟨h.1.1.1,h.1.1.2,?_⟩
 have:=(qht 700 200 t).2 h.1.2
 omega
end Go.AI.Tryz
namespace Go.AI.Tryz
structure Lw (n:Nat)(e:Env):Prop where
 o:∀f args s,f≠12->cl e f args s=cl (qag CP n []) f args s
 a:∀s,cl e 12 [] s=some (bl true,s)
theorem Lw.c {n:Nat}{e:Env}(h:Lw n e){f:Nat}{args:List zA}{r:zA}(hf:f≠12)(hc:∀E s,cl (qag CP n E) f args s=some (r,s)):∀s,cl e f args s=some (r,s):=fun s=>(h.o f args s hf).trans (hc [] s)
abbrev u16 (k:Nat):zA:=.p (.int .u16 (.ofNat k))
end Go.AI.Tryz
namespace Go.AI
section
variable {P:Program}
theorem HasT.inv_int {n t pcs k}(h:HasT P n t pcs)(hu:P.underlying t=some (.int k)):∃a,pcs=[.int k a]/\(Lit.int k a).wf=true:=by
 cases h with
 |int ht a hw=>rw[hu] at ht;cases ht;exact⟨a,rfl,hw⟩
 |bool ht b=>rw[hu] at ht;cases ht
 |str ht b _=>rw[hu] at ht;cases ht
 |sl ht _ _ _=>rw[hu] at ht;cases ht
 |struct ht _ _ _=>rw[hu] at ht;cases ht
theorem HasT.inv_bool {n t pcs}(h:HasT P n t pcs)(hu:P.underlying t=some .bool):∃b,pcs=[.bool b]:=by
 cases h with
 |bool ht b=>exact⟨b,rfl⟩
 |int ht a hw=>rw[hu] at ht;cases ht
 |str ht b _=>rw[hu] at ht;cases ht
 |sl ht _ _ _=>rw[hu] at ht;cases ht
 |struct ht _ _ _=>rw[hu] at ht;cases ht
theorem HasT.inv_sl {n t pcs e}(h:HasT P n t pcs)(hu:P.underlying t=some (.slice e)):∃(m:Nat) (ls:List (List zP)),n=m+1/\pcs=[.sl ls.length ls.flatten]/\ls.length<=maxLen/\∀l∈ls,HasT P m e l:=by
 cases h with
 |sl ht ls hl h=>rw[hu] at ht;cases ht;exact⟨_,ls,rfl,rfl,hl,h⟩
 |bool ht b=>rw[hu] at ht;cases ht
 |int ht a hw=>rw[hu] at ht;cases ht
 |str ht b _=>rw[hu] at ht;cases ht
 |struct ht _ _ _=>rw[hu] at ht;cases ht
theorem HasT.inv_struct {n t pcs fs}(h:HasT P n t pcs)(hu:P.underlying t=some (.struct fs)):∃(m:Nat) (ls:List (List zP)),n=m+1/\pcs=ls.flatten/\ls.length=fs.size/\∀(i:Nat) l f,ls[i]? =some l->fs[i]? =some f->HasT P m f.type l:=by
 cases h with
 |struct ht ls hl h=>rw[hu] at ht;cases ht;exact⟨_,ls,rfl,rfl,hl,h⟩
 |bool ht b=>rw[hu] at ht;cases ht
 |int ht a hw=>rw[hu] at ht;cases ht
 |str ht b _=>rw[hu] at ht;cases ht
 |sl ht _ _ _=>rw[hu] at ht;cases ht
theorem qtI {w:World}{r:Reach}{base:Nat}{t:TypeId}{fs:Array Field}{v:Value}(hu:P.underlying t=some (.struct fs))(ho:Value.okWide P w r base t v):∃cs,v=.agg cs:=by
 unfold Value.okWide at ho
 rw[hu] at ho
 obtain⟨cs,h,_⟩:=ho
 exact⟨cs,h⟩
theorem qhu {α:Type}{c:α->List zP}{Q:α->Prop}:∀(ls:List (List zP)),(∀l∈ls,∃a,c a=l/\Q a)->∃zs:List α,zs.length=ls.length/\qaQ c zs=ls.flatten/\∀a∈zs,Q a
 |[],_=>⟨[],rfl,rfl,fun a h=>by cases h⟩
 |l::ls,h=>by
  obtain⟨a,ha,hq⟩:=h l (zav ..)
  obtain⟨zs,h1,h2,h3⟩:=qhu ls fun m hm=>h m (zaw _ hm)
  refine⟨a::zs,by simp[h1],by simp only[qaQ,List.flatten_cons,ha,h2],fun b hb=>?_⟩
  rcases zaE.1 hb with rfl|hb
  ·exact hq
  ·exact h3 b hb
theorem qvE {a:Int}(h:(Lit.int .i64 a).wf=true): -9223372036854775808<=a/\a<=9223372036854775807:=by
 simp[Lit.wf,IntKind.min,IntKind.max,IntKind.signed,IntKind.bits] at h
 omega
theorem wf8 {a:Int}(h:(Lit.int .u8 a).wf=true):0<=a/\a<256:=by
 simp[Lit.wf,IntKind.min,IntKind.max,IntKind.signed,IntKind.bits] at h
 omega
end
end Go.AI
namespace Go.AI.Tryz
open Go.Proofs
theorem qnU (ks:List Tm):qaQ Tm.cells ks=Tm.cellsL ks:=by
 induction ks with
 |nil=>rfl
 |cons a r ih=>simp only[qaQ,Tm.cellsL,ih]
theorem qxi {α:Type}{l:List α}(h:l.length=5):∃a b c d e,l=[a,b,c,d,e]:=by
 match l,h with
 |[a,b,c,d,e],_=>exact⟨a,b,c,d,e,rfl⟩
theorem qxj {α:Type}{l:List α}(h:l.length=3):∃a b c,l=[a,b,c]:=by
 match l,h with
 |[a,b,c],_=>exact⟨a,b,c,rfl⟩
theorem qjV {α:Type}{l:List α}(h:l.length=2):∃a b,l=[a,b]:=by
 match l,h with
 |[a,b],_=>exact⟨a,b,rfl⟩
theorem has_tm:∀(n:Nat) (pcs:List zP),HasT Go.Proofs.Tryz.prog n 29 pcs->∃t:Tm,t.cells=pcs/\t.Ok
 |0,pcs,h=>by cases h
 |n+1,pcs,h=>by
  obtain⟨m,ls,hm,rfl,hl,hf⟩:=h.inv_struct Go.Proofs.Tryz.underlying29
  cases hm
  obtain⟨a,b,c,d,e,rfl⟩:=qxi hl
  obtain⟨k,rfl,wk⟩:=(hf 0 a _ rfl rfl).inv_int Go.Proofs.Tryz.underlying5
  obtain⟨x,rfl,wx⟩:=(hf 1 b _ rfl rfl).inv_int Go.Proofs.Tryz.underlying3
  obtain⟨y,rfl,wy⟩:=(hf 2 c _ rfl rfl).inv_int Go.Proofs.Tryz.underlying3
  obtain⟨z,rfl,wz⟩:=(hf 3 d _ rfl rfl).inv_int Go.Proofs.Tryz.underlying3
  obtain⟨m,rs,hm,rfl,hr,he⟩:=(hf 4 e _ rfl rfl).inv_sl Go.Proofs.Tryz.underlying27
  subst hm
  obtain⟨ks,h1,h2,h3⟩:=qhu (c:=Tm.cells) (Q:=Tm.Ok) rs fun l hl=>has_tm m l (he l hl)
  refine⟨.mk k x y z ks,?_,.mk (wf8 wk) (qvE wx) (qvE wy) (qvE wz) (by rw[h1];exact hr) h3⟩
  rw[qnU] at h2
  simp only[Tm.cells,h1,h2,List.flatten_cons,List.flatten_nil,zaP,zaQ]
theorem qp0 {n:Nat}{pcs:List zP}(h:HasT Go.Proofs.Tryz.prog n 24 pcs):∃b:Bs,b.cells=pcs/\b.Ok:=by
 obtain⟨m,ls,rfl,rfl,hl,hf⟩:=h.inv_struct Go.Proofs.Tryz.underlying24
 obtain⟨a,b,rfl⟩:=qjV hl
 obtain⟨c,rfl⟩:=(hf 0 a _ rfl rfl).inv_bool Go.Proofs.Tryz.underlying4
 obtain⟨x,rfl,wx⟩:=(hf 1 b _ rfl rfl).inv_int Go.Proofs.Tryz.underlying3
 exact⟨⟨c,x⟩,rfl,qvE wx⟩
theorem qvF {n:Nat}{pcs:List zP}(h:HasT Go.Proofs.Tryz.prog n 79 pcs):∃t:Ty,t.cells=pcs/\t.Ok:=by
 obtain⟨m,ls,rfl,rfl,hl,hf⟩:=h.inv_struct Go.Proofs.Tryz.underlying79
 obtain⟨a,b,rfl⟩:=qjV hl
 obtain⟨m,rs,rfl,rfl,hr,he⟩:=(hf 0 a _ rfl rfl).inv_sl Go.Proofs.Tryz.underlying77
 obtain⟨ps,h1,h2,h3⟩:=qhu (c:=Bs.cells) (Q:=Bs.Ok) rs fun l hl=>qp0 (he l hl)
 obtain⟨r,hrc,hro⟩:=qp0 (hf 1 b _ rfl rfl)
 refine⟨⟨ps,r⟩,?_,by show ps.length<=_;rw[h1];exact hr,h3,hro⟩
 subst hrc
 show[zP.sl ps.length (qaQ Bs.cells ps),.bool r.cell,.int .i64 r.n]=_
 rw[h1,h2]
 rfl
theorem has_ar {n:Nat}{pcs:List zP}(h:HasT Go.Proofs.Tryz.prog n 26 pcs):∃a:Ar,a.cells=pcs/\a.Ok:=by
 obtain⟨m,ls,rfl,rfl,hl,hf⟩:=h.inv_struct Go.Proofs.Tryz.underlying26
 obtain⟨a,b,c,rfl⟩:=qxj hl
 obtain⟨m,rs,rfl,rfl,hr,he⟩:=(hf 0 a _ rfl rfl).inv_sl Go.Proofs.Tryz.underlying22
 obtain⟨ids,h1,h2,h3⟩:=qhu (c:=Ty.cells) (Q:=Ty.Ok) rs fun l hl=>qvF (he l hl)
 obtain⟨r,hrc,hro⟩:=qp0 (hf 1 b _ rfl rfl)
 obtain⟨j,rfl⟩:=(hf 2 c _ rfl rfl).inv_bool Go.Proofs.Tryz.underlying4
 refine⟨⟨ids,r,j⟩,?_,by show ids.length<=_;rw[h1];exact hr,h3,hro⟩
 subst hrc
 show[zP.sl ids.length (qaQ Ty.cells ids),.bool r.cell,.int .i64 r.n,.bool j]=_
 rw[h1,h2]
 rfl
theorem qtJ {P:Program}{w:World}{n:Nat}{t:TypeId}{cs:Array Value}{pcs:List zP}(h:qnx P w n t cs.toList pcs):VR G00 w (.agg (pcs.map .p)) (.agg cs):=by
 obtain⟨_,h1,h2,h3⟩:=h
 refine .agg _ _ (by rw[za1,h1,zba]) (fun v hv=>h2 v (by simpa using hv)) fun i c v hc hv=>?_
 rw[zbb,zad] at hc
 obtain⟨p,hp,rfl⟩:=hc
 exact .p p v ((h3 i p v hp (by rw[zaI];exact hv)).mono fun ad u hu _=>⟨hu,trivial⟩)
def qp1:List TypeId:=[3,4,5,22,24,26,27,29,77,79]
theorem m26:26∈qp1:=by simp[qp1]
theorem m29:29∈qp1:=by simp[qp1]
theorem lawTs_ok:qg3 Go.Proofs.Tryz.prog qp1=true:=by kernel_rfl
theorem arg_told {P:Program}{ts:List TypeId}(hok:qg3 P ts=true){t:TypeId}{fs:Array Field}(ht:t∈ts)(hu:P.underlying t=some (.struct fs)){H:Type}{enc:TypeId×Value->H}{w:World}{base base':Nat}{spare:Nat->Bool}{held:Bool}{r:Reach}{v:Value}{d:DataW H}{ps:List MemPlace}(ho:Value.okWide P w r base t v)(h:DataW.Trod enc P w base' spare held t v d ps):
  ∃n pcs,HasT P n t pcs/\VR G00 w (.agg (pcs.map .p)) v:=by
 obtain⟨cs,rfl⟩:=qtI hu ho
 obtain⟨fuel,h⟩:=h
 obtain⟨pcs,hp⟩:=qiq hok fuel t _ _ ht h
 exact⟨fuel,pcs,hp.1,qtJ hp⟩
end Go.AI.Tryz
namespace Go.AI
def tkO (s:ASt)(m:Nat):Tk:=match m with
 |0=> .full
 |_+1=> .own s.ntok
def stO (s:ASt)(m sz:Nat):ASt:=match m with
 |0=>s
 |m+1=>{s with ntok:=s.ntok+1,toks:=(s.ntok,m+1,sz)::s.toks}
theorem qxk (e:Env){sz b m:Nat}{cs:List zP}(s:ASt)(hl:cs.length=m*sz)(hb:m*b<=140737488355328):ap e sz b (.sl 0 [] .full) (.p (.sl m cs)) s=some (.sl m cs (tkO s m),stO s m sz):=by
 unfold ap stV
 have h1:Nat.ble ((0+m)*b) 140737488355328=true:=ble_iff.2 (by rw[zaF];exact hb)
 have h2:Nat.beq cs.length (m*sz)=true:=qaD hl
 have h3:Nat.beq ([]:List zP).length (0*sz)=true:=qaD (by simp)
 simp only[qaJ,Arg.ev,qdy,zaa,h1,h2,h3,zat,cond_true]
 cases m with
 |zero=>
  rw[Nat.zero_mul] at hl
  have:cs=[]:=zaX.1 hl
  subst this
  rfl
 |succ m=>
  simp only[Nat.beq,cond_false,zaF,zaQ]
  rfl
end Go.AI
namespace Go.AI.Tryz
theorem qtK (l:List Rw):(qaQ rwC l).length=l.length*2:=qdX (c:=rwC) (fun _=>rfl) l
theorem l3_0 (a b c:zA):qe9 [a,b,c] 0=some a:=rfl
theorem l3_1 (a b c:zA):qe9 [a,b,c] 1=some b:=rfl
theorem l3_2 (a b c:zA):qe9 [a,b,c] 2=some c:=rfl
end Go.AI.Tryz
namespace Go.AI
structure Sn where
 ty:Ty
 arg:Bool
 new:Bool
namespace Sn
def cells (x:Sn):List zP:=x.ty.cells++[.bool x.arg,.bool x.new]
def v (x:Sn):zA:=.agg (x.cells.map .p)
theorem v_eq (x:Sn):x.v=.agg [.p (.sl x.ty.ps.length (qaQ Bs.cells x.ty.ps)),bl x.ty.res.cell,i64 x.ty.res.n,bl x.arg,bl x.new]:=rfl
def c (x:Sn):List zA:=[.p (.sl x.ty.ps.length (qaQ Bs.cells x.ty.ps)),bl x.ty.res.cell,i64 x.ty.res.n,bl x.arg,bl x.new]
end Sn
abbrev sw (l:List Sn):zA:=.p (.sl l.length (qaQ Sn.cells l))
def qd7 (l:List Sn)(i:Int):Option Sn:=if i<1 then none else l[(i-1).toNat]?
theorem qtL {l:List Sn}{i:Int}(h:qd7 l i=none):i<1\/Int.ofNat l.length<i:=by
 unfold qd7 at h
 split at h
 ·exact .inl ‹_›
 ·rw[List.getElem?_eq_none_iff] at h
  right;simp only[zaf];omega
theorem qkW {l:List Sn}{i:Int}{x:Sn}(h:qd7 l i=some x):∃j:Nat,i=Int.ofNat (j+1)/\j<l.length/\l[j]? =some x:=by
 unfold qd7 at h
 split at h
 ·cases h
 ·obtain⟨hj,_⟩:=zao.1 h
  exact⟨(i-1).toNat,by simp only[zaf];omega,hj,h⟩
theorem qvG {j n:Nat}(h:j<n)(hn:n<=1000000):¬Int.ofNat (j+1)<1/\¬Int.ofNat n<Int.ofNat (j+1)/\qbb .i64 (Int.ofNat (j+1)-1)=Int.ofNat j:=by
 refine⟨by simp only[zaf];omega,by simp only[zaf];omega,?_⟩
 have:Int.ofNat (j+1)-1=Int.ofNat j:=by simp only[zaf];omega
 rw[this]
 exact qbt (by simp only[zaf];omega) (by simp only[zaf];omega)
def qcj (l:List Sn)(i z:Int):Bool:=match qd7 l i with
 |none=>false
 |some x=>!x.arg&&(decide (Int.ofNat x.ty.ps.length=0)&&(x.ty.res.cell&&(decide (z=0)||decide (x.ty.res.n=z))))
def fR (t:Tm):Bool:=
 if t.k=1\/t.k=5\/t.k=10 then decide (t.i=0)
 else if t.k=6\/t.k=12 then decide (t.m=0)&&decide (t.i=0)
 else if t.k=2\/t.k=3\/t.k=4\/t.k=15\/t.k=16 then decide (t.n=0)&&decide (t.m=0)
 else if t.k=18 then decide (t.m=0)
 else decide (t.n=0)&&(decide (t.m=0)&&decide (t.i=0))
def kR (k:Int):Int:=if k=2 then -1 else if k=4\/k=6\/k=10\/k=18 then 1 else if k=5\/k=7\/k=9\/k=11\/k=13\/k=17 then 2 else if k=8 then 3 else 0
end Go.AI
namespace Go.AI.Tryz
theorem qp2 (x:Sn):zA.cells (some 5) x.v=some x.c:=rfl
theorem qvH (x:Sn):over [.sl 0 [] .full,bl false,i64 0,bl false,bl false] 0 x.c=some x.c:=rfl
theorem snld (x:Sn):ldL x.c 0 (some 5)=some x.v:=rfl
theorem snl0 (x:Sn):ldL x.c 0 none=some (.p (.sl x.ty.ps.length (qaQ Bs.cells x.ty.ps))):=rfl
theorem snl1 (x:Sn):ldL x.c 1 none=some (bl x.ty.res.cell):=rfl
theorem snl2 (x:Sn):ldL x.c 2 none=some (i64 x.ty.res.n):=rfl
theorem snl3 (x:Sn):ldL x.c 3 none=some (bl x.arg):=rfl
theorem qxl (e:Env)(s:ASt){l:List Sn}{j:Nat}{x:Sn}(h:l[j]? =some x):ldH e s (.elem (qaQ Sn.cells l) (j*5)) (some 5)=some x.v:=qdr (c:=Sn.cells) (sz:=5) (fun _=>rfl) e s h
theorem qp3 (e:Env)(s:ASt){l:List Sn}{j:Nat}{x:Sn}(h:l[j]? =some x):ldH e s (.elem (qaQ Sn.cells l) (j*5+2)) none=some (i64 x.ty.res.n):=qjf (c:=Sn.cells) (sz:=5) (fun _=>rfl) e s h 2 (by omega)
theorem qsp (e:Env)(s:ASt){l:List Sn}{j:Nat}{x:Sn}(h:l[j]? =some x):ldH e s (.elem (qaQ Sn.cells l) (j*5+3)) none=some (bl x.arg):=qjf (c:=Sn.cells) (sz:=5) (fun _=>rfl) e s h 3 (by omega)
theorem qvI (e:Env)(s:ASt){l:List Sn}{j:Nat}{x:Sn}(h:l[j]? =some x):ldH e s (.elem (qaQ Sn.cells l) (j*5+4)) none=some (bl x.new):=qjf (c:=Sn.cells) (sz:=5) (fun _=>rfl) e s h 4 (by omega)
theorem snty (e:Env)(s:ASt){l:List Sn}{j:Nat}{x:Sn}(h:l[j]? =some x):ldH e s (.elem (qaQ Sn.cells l) (j*5)) (some 3)=some x.ty.v:=by
 have hc:∀y:Sn,(Sn.cells y).length=5:=fun _=>rfl
 rw[qfo]
 have h5:cut (qaQ Sn.cells l) (j*5) 3=some x.ty.cells:=by
  unfold cut
  have:=qo5 hc (zao.1 h).1
  rw[qcz,qcA,qha hc h,ble_iff.2 (by omega),cond_true,List.take_append_of_le_length (by rw[hc];omega)]
  rfl
 simp only[cnt,h5,zab,zaa,zA.ofCells]
 rfl
theorem qkX (n:Int):PC CP 171 [i64 n] (bl (qbe n)):=by
 refine PC.of2 (cf:=cf171) (np:=1) (args':=[i64 n]) (by kernel_rfl) (by kernel_rfl) rfl (by first|rfl|(simp only[zap,qal,qb6];rfl)) (by first|rfl|(simp only[zam,qai,qb7];rfl)) (fun lo=>by first|rfl|exact qaM lo _|exact qaR lo _|exact qce lo _ _) (Ev.mono (ev0) fun N _ E s=>⟨bl (qbe n),s,(s171_eq _ _ _ _).trans ?_,(by first|rfl|exact qai _|exact qaN _|exact qb1 _ _)⟩)
 unfold s171 s171_0 qbe
 simp only[qad,qbc,qa9,qaa,qaj,zab,zaa]
 cases decide (n<1)<;>rfl
theorem qrB (k:Int):PC CP 170 [u8 k] (i64 (kR k)):=by
 refine PC.of2 (cf:=cf170) (np:=1) (args':=[u8 k]) (by kernel_rfl) (by kernel_rfl) rfl (by first|rfl|(simp only[zap,qal,qb6];rfl)) (by first|rfl|(simp only[zam,qai,qb7];rfl)) (fun lo=>by first|rfl|exact qaM lo _|exact qaR lo _|exact qce lo _ _) (Ev.mono (ev0) fun N _ E s=>⟨i64 (kR k),s,(s170_eq _ _ _ _).trans ?_,(by first|rfl|exact qai _|exact qaN _|exact qb1 _ _)⟩)
 have hk:k=2\/k=4\/k=6\/k=10\/k=18\/k=5\/k=7\/k=9\/k=11\/k=13\/k=17\/k=8\/(k≠2/\k≠4/\k≠6/\k≠10/\k≠18/\k≠5/\k≠7/\k≠9/\k≠11/\k≠13/\k≠17/\k≠8):=by omega
 unfold s170 s170_7 s170_6 s170_5 s170_4 s170_3 s170_2 s170_1 s170_0 kR
 rcases hk with h|h|h|h|h|h|h|h|h|h|h|h|h<;>simp only[h,if_true,if_false,or_true,or_false,qad,qaf,zaj,decide_true,decide_false,qaa,cond_true,cond_false,qaj,zab,zaa]
theorem qkY (t:Tm):PC CP 117 [t.v] (bl (fR t)):=by
 refine PC.of2 (cf:=cf117) (np:=1) (args':=[t.v]) (by kernel_rfl) (by kernel_rfl) rfl (by first|rfl|(simp only[zap,qal];rfl)) (by first|rfl|(simp only[zam,qai];rfl)) (fun lo=>by first|rfl|exact qaM lo _|exact qaR lo _|exact qce lo _ _) (Ev.mono (ev0) fun N _ E s=>⟨bl (fR t),s,(s117_eq _ _ _ _).trans ?_,(by first|rfl|exact qai _|exact qaN _|exact qb1 _ _)⟩)
 have hk:t.k=1\/t.k=5\/t.k=10\/t.k=6\/t.k=12\/t.k=2\/t.k=3\/t.k=4\/t.k=15\/t.k=16\/t.k=18\/(t.k≠1/\t.k≠5/\t.k≠10/\t.k≠6/\t.k≠12/\t.k≠2/\t.k≠3/\t.k≠4/\t.k≠15/\t.k≠16/\t.k≠18):=by omega
 unfold s117 s117_11 s117_10 s117_9 s117_8 s117_7 s117_6 s117_5 s117_4 s117_3 s117_2 s117_1 s117_0 fR
 rcases hk with h|h|h|h|h|h|h|h|h|h|h|h<;>simp only[h,if_true,if_false,or_true,or_false,qah,qba,qbX,qd6,qcJ,qad,qaf,zaj,decide_true,decide_false,qaa,cond_true,cond_false,qaj,zab,zaa]<;>cases decide (t.n=0)<;>cases decide (t.m=0)<;>simp only[cond_true,cond_false,zax,zau]
theorem qjt (l:List Sn)(hl:l.length<=1000000)(i z:Int):PC CP 118 [sw l,i64 i,i64 z] (bl (qcj l i z)):=by
 refine PC.of2 (cf:=cf118) (np:=3) (args':=[sw l,i64 i,i64 z]) (by kernel_rfl) (by kernel_rfl) rfl (by first|rfl|(simp only[zap,qal,qb6];rfl)) (by first|rfl|(simp only[zam,qai,qb7];rfl)) (fun lo=>by first|rfl|exact qaM lo _|exact qaR lo _|exact qce lo _ _) (Ev.mono (ev0) fun N _ E s=>⟨bl (qcj l i z),s,(s118_eq _ _ _ _ _ _).trans ?_,(by first|rfl|exact qai _|exact qaN _|exact qb1 _ _)⟩)
 unfold s118 s118_1 s118_0 qcj
 cases h:qd7 l i with
 |none=>
  by_cases h1:i<1
  ·simp only[h1,qad,qaf,qap,qaC,qa0,decide_true,qaa,cond_true,qaj,zab,zaa,qbo]
  ·have h2:Int.ofNat l.length<i:=by rcases qtL h with h|h;exact absurd h h1;exact h
   simp only[h1,h2,qad,qaf,qap,qaC,qa0,decide_true,decide_false,qaa,cond_true,cond_false,qaj,zab,zaa,qbo]
 |some x=>
  obtain⟨j,rfl,hj,hx⟩:=qkW h
  obtain⟨h1,h2,h3⟩:=qvG hj hl
  simp only[h1,h2,h3,qbV hj,qxl _ _ hx,qp2,qvH,snl0,snl1,snl2,snl3,qad,qaf,qap,qaC,qa0,decide_false,qaa,cond_false,qaj,zab,zaa,qab,qam,qbo]
  cases x.arg<;>cases decide (Int.ofNat x.ty.ps.length=0)<;>cases x.ty.res.cell<;>cases decide (z=0)<;>rfl
def Sn.cell (n:Int):Sn:=⟨⟨[],⟨true,n⟩⟩,false,true⟩
def Sn.val (n:Int):Sn:=⟨⟨[],⟨false,n⟩⟩,true,false⟩
theorem z5l (a b c d f:zA):ldL [a,b,c,d,f] 0 (some 5)=some (.agg [a,b,c,d,f]):=rfl
theorem z5c (a b c d f:zA):zA.cells (some 5) (.agg [a,b,c,d,f])=some [a,b,c,d,f]:=rfl
theorem z5o (a b c d f a' b' c' d' f':zA):over [a,b,c,d,f] 0 [a',b',c',d',f']=some [a',b',c',d',f']:=rfl
theorem qp4 (n:Int):PC CP 122 [i64 n] ((Sn.cell n).v):=by
 refine PC.of2 (cf:=cf122) (np:=1) (args':=[i64 n]) (by kernel_rfl) (by kernel_rfl) rfl (by first|rfl|(simp only[zap,qal,qb6];rfl)) (by first|rfl|(simp only[zam,qai,qb7];rfl)) (fun lo=>by first|rfl|exact qaM lo _|exact qaR lo _|exact qce lo _ _) (Ev.mono (ev0) fun N _ E s=>⟨.agg [.sl 0 [] .full,bl true,i64 n,bl false,bl true],s,(s122_eq _ _ _ _).trans ?_,(by first|rfl|exact qai _|exact qaN _|exact qb1 _ _)⟩)
 have q1:bd [bl false,i64 0] [(0,none,.c (bl true)),(1,none,.c (i64 n))]=some (.agg [bl true,i64 n]):=rfl
 have q2:bd [.sl 0 [] .full,bl false,i64 0] [(1,some 2,.c (.agg [bl true,i64 n]))]=some (.agg [.sl 0 [] .full,bl true,i64 n]):=rfl
 have q3:bd [.sl 0 [] .full,bl false,i64 0,bl false,bl false] [(0,some 3,.c (.agg [.sl 0 [] .full,bl true,i64 n])),(4,none,.c (bl true))]=some (.agg [.sl 0 [] .full,bl true,i64 n,bl false,bl true]):=rfl
 unfold s122
 simp only[q1,q2,q3,z5l,z5c,z5o,zaa]
theorem qsq (n:Int):PC CP 120 [i64 n] ((Sn.val n).v):=by
 refine PC.of2 (cf:=cf120) (np:=1) (args':=[i64 n]) (by kernel_rfl) (by kernel_rfl) rfl (by first|rfl|(simp only[zap,qal,qb6];rfl)) (by first|rfl|(simp only[zam,qai,qb7];rfl)) (fun lo=>by first|rfl|exact qaM lo _|exact qaR lo _|exact qce lo _ _) (Ev.mono (ev0) fun N _ E s=>⟨.agg [.sl 0 [] .full,bl false,i64 n,bl true,bl false],s,(s120_eq _ _ _ _).trans ?_,(by first|rfl|exact qai _|exact qaN _|exact qb1 _ _)⟩)
 have q1:bd [bl false,i64 0] [(1,none,.c (i64 n))]=some (.agg [bl false,i64 n]):=rfl
 have q2:bd [.sl 0 [] .full,bl false,i64 0] [(1,some 2,.c (.agg [bl false,i64 n]))]=some (.agg [.sl 0 [] .full,bl false,i64 n]):=rfl
 have q3:bd [.sl 0 [] .full,bl false,i64 0,bl false,bl false] [(0,some 3,.c (.agg [.sl 0 [] .full,bl false,i64 n])),(3,none,.c (bl true))]=some (.agg [.sl 0 [] .full,bl false,i64 n,bl true,bl false]):=rfl
 unfold s120
 simp only[q1,q2,q3,z5l,z5c,z5o,zaa]
end Go.AI.Tryz
namespace Go.AI
theorem ap_r (e:Env){sz b m:Nat}{cs:List zP}(f:Nat->List zP)(s:ASt)(hl:cs.length=m*sz)(hb:m*b<=140737488355328)(hf:f m=cs):ap e sz b (.sl 0 [] .full) (.p (.sl m cs)) s=some (qb9 f s.ntok m,qc5 s sz m):=by
 unfold ap stV
 have h1:Nat.ble ((0+m)*b) 140737488355328=true:=ble_iff.2 (by rw[zaF];exact hb)
 have h2:Nat.beq cs.length (m*sz)=true:=qaD hl
 have h3:Nat.beq ([]:List zP).length (0*sz)=true:=qaD (by simp)
 simp only[qaJ,Arg.ev,qdy,zaa,h1,h2,h3,zat,cond_true]
 subst hf
 cases m with
 |zero=>
  rw[Nat.zero_mul] at hl
  rw[zaX.1 hl]
  rfl
 |succ m=>
  simp only[Nat.beq,cond_false,zaF,zaQ]
  rfl
theorem qfX (f:Nat->List zP)(k j:Nat)(h0:f 0=[]):qaF (qb9 f k j)=.p (.sl j (f j)):=qdc f k j h0▸(by cases j<;>rfl)
end Go.AI
namespace Go.AI.Tryz
theorem qju (l:List Sn)(hl:l.length<=1000000)(y:Sn):PC CP 119 [sw l,y.v] (sw (l++[y])):=by
 let f:Nat->List zP:=fun j=>qaQ Sn.cells ((l++[y]).take j)
 refine PC.of2 (cf:=cf119) (np:=2) (args':=[sw l,y.v]) (by kernel_rfl) (by kernel_rfl) rfl rfl rfl (fun _=>rfl) (Ev.mono ev0 fun N _ E s=>⟨qb9 f s.ntok (l.length+1),qc5 s 5 (l.length+1),(s119_eq _ _ _ _ _).trans ?_,?_⟩)
 ·have h1:=ap_r (qag CP N E) (sz:=5) (b:=48) f s (qdX (c:=Sn.cells) (fun _=>rfl) l) (by omega) (by simp only[f,List.take_left'])
  have hms:ms 1 [.sl 0 [],.bool false,.int .i64 0,.bool false,.bool false] [(0,some 5,.c y.v)]=some (.sl 1 y.cells .full):=rfl
  have h2:=qfp (qag CP N E) (sz:=5) (b:=48) (f:=f) (new:=y.cells) (y:=.sl 1 y.cells .full) s l.length rfl rfl (by omega) (by
   have:=qbZ (c:=Sn.cells) (l:=l++[y]) (j:=l.length) (by simp)
   rw[List.getElem_append_right (zan _)] at this
   simpa[f] using this)
  have hs:qa2 (cut y.c 0 5) (cut y.c 0 5)=true:=by
   have:cut y.c 0 5=some y.c:=rfl
   rw[this]
   simp only[qa2,Sn.c,qdA,qfL,zat]
  unfold s119
  simp only[qp2,snld,h1,hms,h2,hs,za8,zaa,qab,cnd]
 ·rw[qfX f _ _ rfl]
  simp only[f,sw,zay,zar,zaC,zaF]
  rw[List.take_of_length_le (by simp)]
theorem qm4 (a:Ar)(h1:a.ids.length<=1000000):PC CP 69 [a.v] (sw (a.ids.map fun t=>⟨t,false,false⟩)):=by
 let l:List Sn:=a.ids.map fun t=>⟨t,false,false⟩
 have hll:l.length=a.ids.length:=za1 _
 let f:Nat->List zP:=fun j=>qaQ Sn.cells (l.take j)
 refine PC.of2 (cf:=cf69) (np:=1) (args':=[a.v]) (by kernel_rfl) (by kernel_rfl) rfl rfl rfl (fun _=>rfl) ((Ev.ge (a.ids.length+1)).mono fun N hn E s=>⟨qb9 f s.ntok a.ids.length,qc5 s 5 a.ids.length,(s69_eq _ _ _ _).trans ?_,?_⟩)
 ·unfold s69 s69_0
  rw[qc1,zaa]
  generalize hF:(fun(h6:zA->zA->ASt->Res) (x3 x4:zA) (s5:ASt)=>_)=F
  refine qcH _ F a.ids.length (fun j L=>L (qb9 f s.ntok j) (i64 (.ofNat j)) (qc5 s 5 j)) (fun _=>some (qb9 f s.ntok a.ids.length,qc5 s 5 a.ids.length)) (fun j L hj ih=>?_) (fun L=>?_) N 0 (za3 _) (by omega)
  ·subst hF
   have hk:a.ids[j]? =some a.ids[j]:=zah hj
   have hld:∀s,ldH (qag CP N E) s (.elem (qaQ Ty.cells a.ids) (j*3)) (some 3)=some a.ids[j].v:=fun s=>qdr (c:=Ty.cells) (sz:=3) (fun _=>rfl) _ s hk
   have hjl:j<l.length:=by rw[hll];exact hj
   have hlj:l[j]=⟨a.ids[j],false,false⟩:=by simp only[l,List.getElem_map]
   have hbd:bd [.sl 0 [] .full,bl false,i64 0,bl false,bl false] [(0,some 3,.c a.ids[j].v)]=some (Sn.v ⟨a.ids[j],false,false⟩):=rfl
   have hms:ms 1 [.sl 0 [],.bool false,.int .i64 0,.bool false,.bool false] [(0,some 5,.c (Sn.v ⟨a.ids[j],false,false⟩))]=some (.sl 1 (Sn.cells ⟨a.ids[j],false,false⟩) .full):=rfl
   have hap:=qfp (qag CP N E) (sz:=5) (b:=48) (f:=f) (y:=.sl 1 (Sn.cells ⟨a.ids[j],false,false⟩) .full) s j rfl rfl (by omega) (by
    have:=qbZ (c:=Sn.cells) hjl
    rw[hlj] at this
    exact this)
   have hl0:ldL [.p (.sl a.ids.length (qaQ Ty.cells a.ids)),bl a.root.cell,i64 a.root.n,bl a.jumps] 0 none=some (.p (.sl a.ids.length (qaQ Ty.cells a.ids))):=rfl
   simp only[hl0,of_lt.2 hj,qbV hj,hld,hbd,hms,hap,qaO (show j<9223372036854775807 by omega),qad,qap,qay,decide_true,qaa,cond_true,zab,zaa,qab,qbo]
   exact ih
  ·subst hF
   have h3:¬(Int.ofNat a.ids.length<Int.ofNat a.ids.length):=fun h=>zaZ _ (of_lt.1 h)
   have hl0:ldL [.p (.sl a.ids.length (qaQ Ty.cells a.ids)),bl a.root.cell,i64 a.root.n,bl a.jumps] 0 none=some (.p (.sl a.ids.length (qaQ Ty.cells a.ids))):=rfl
   simp only[hl0,h3,qad,qap,qay,decide_false,qaa,cond_false,zab,zaa,qbo]
 ·rw[qfX f _ _ rfl]
  simp only[f]
  rw[<-hll,List.take_length]
end Go.AI.Tryz
namespace Go.AI.Tryz
def flR (k n m lab:Int)(z:List Int):Int:=
 if k=6 then(if qbe n then n else 0)
 else if k=7 then(if z[0]?.getD 0=1 then z[1]?.getD 0 else 0)
 else if k=8 then(if z[1]?.getD 0=z[2]?.getD 0 then z[1]?.getD 0 else 0)
 else if k=9 then(if z[1]?.getD 0=1 then 1 else 0)
 else if k=10 then(if qbe n&&qbi m n then z[0]?.getD 0 else 0)
 else if k=11\/k=13 then(if z[0]?.getD 0=z[1]?.getD 0 then z[0]?.getD 0 else 0)
 else if k=12 then(if qbi n lab then 1 else 0)
 else if k=14 then 1 else 0
theorem qtM (e:Env){l:List Int}{j:Nat}{a:Int}(h:l[j]? =some a):iaV 1 (iv l) (i64 (.ofNat j))=some (qaQ qcT l,j*1)/\∀s,ldH e s (.elem (qaQ qcT l) (j*1)) none=some (i64 a):=
 ⟨qbV (zao.1 h).1,fun s=>qhb (c:=qcT) (sz:=1) (fun _=>rfl) e s h (by omega)⟩
theorem qtN (e:Env){a:Int}{r:List Int}:iaV 1 (iv (a::r)) (i64 0)=some (qaQ qcT (a::r),0)/\∀s,ldH e s (.elem (qaQ qcT (a::r)) 0) none=some (i64 a):=qtM e (j:=0) rfl
theorem quk (e:Env){a b:Int}{r:List Int}:iaV 1 (iv (a::b::r)) (i64 1)=some (qaQ qcT (a::b::r),1)/\∀s,ldH e s (.elem (qaQ qcT (a::b::r)) 1) none=some (i64 b):=qtM e (j:=1) rfl
theorem iv_2 (e:Env){a b c:Int}{r:List Int}:iaV 1 (iv (a::b::c::r)) (i64 2)=some (qaQ qcT (a::b::c::r),2)/\∀s,ldH e s (.elem (qaQ qcT (a::b::c::r)) 2) none=some (i64 c):=qtM e (j:=2) rfl
theorem qvJ (t:Tm)(lab:Int)(z:List Int)(h7:t.k=7\/t.k=9\/t.k=11\/t.k=13->z.length=2)(h8:t.k=8->z.length=3)(h10:t.k=10->z.length=1):PC CP 173 [t.v,iv z,i64 lab] (i64 (flR t.k t.n t.m lab z)):=by
 refine PC.of2 (cf:=cf173) (np:=3) (args':=[t.v,iv z,i64 lab]) (by kernel_rfl) (by kernel_rfl) rfl (by first|rfl|(simp only[zap,qal];rfl)) (by first|rfl|(simp only[zam,qai];rfl)) (fun lo=>by first|rfl|exact qaM lo _|exact qaR lo _|exact qce lo _ _) (Ev.mono (qkX t.n) fun N hz E s=>⟨i64 (flR t.k t.n t.m lab z),s,(s173_eq _ _ _ _ _ _).trans ?_,(by first|rfl|exact qai _|exact qaN _|exact qb1 _ _)⟩)
 have hk:t.k=6\/t.k=7\/t.k=8\/t.k=9\/t.k=10\/t.k=11\/t.k=13\/t.k=12\/t.k=14\/(t.k≠6/\t.k≠7/\t.k≠8/\t.k≠9/\t.k≠10/\t.k≠11/\t.k≠13/\t.k≠12/\t.k≠14):=by omega
 unfold s173 s173_9 s173_8 s173_7 s173_6 s173_5 s173_4 s173_3 s173_2 s173_1 s173_0 flR
 rcases hk with h|h|h|h|h|h|h|h|h|h
 ·simp -implicitDefEqProofs only[h,hz,if_true,qah,qba,qbX,qd6,qad,qaf,qap,qa9,zaj,decide_true,decide_false,qaa,cond_true,cond_false,qaj,zab,zaa,qab]
  cases qbe t.n<;>rfl
 ·match z,h7 (.inl h) with
  |[a,b],_=>
   obtain⟨i0,l0⟩:=qtN (qag CP N E) (a:=a) (r:=[b])
   obtain⟨i1,l1⟩:=quk (qag CP N E) (a:=a) (b:=b) (r:=[])
   simp -implicitDefEqProofs only[h,i0,l0,i1,l1,if_true,if_false,zas,zaK,qah,qba,qbX,qd6,qad,qaf,qap,qa9,zaj,decide_true,decide_false,qaa,cond_true,cond_false,qaj,zab,zaa,qab,zaB]
   by_cases g:a=1<;>simp only[g,if_true,if_false,decide_true,decide_false,cond_true,cond_false]
 ·match z,h8 h with
  |[a,b,c],_=>
   obtain⟨i1,l1⟩:=quk (qag CP N E) (a:=a) (b:=b) (r:=[c])
   obtain⟨i2,l2⟩:=iv_2 (qag CP N E) (a:=a) (b:=b) (c:=c) (r:=[])
   simp -implicitDefEqProofs only[h,i2,l2,i1,l1,if_true,if_false,zas,zaK,qah,qba,qbX,qd6,qad,qaf,qap,qa9,zaj,decide_true,decide_false,qaa,cond_true,cond_false,qaj,zab,zaa,qab,zaB]
   by_cases g:b=c<;>simp only[g,if_true,if_false,decide_true,decide_false,cond_true,cond_false]
 ·match z,h7 (.inr (.inl h)) with
  |[a,b],_=>
   obtain⟨i1,l1⟩:=quk (qag CP N E) (a:=a) (b:=b) (r:=[])
   simp -implicitDefEqProofs only[h,i1,l1,if_true,if_false,zas,zaK,qah,qba,qbX,qd6,qad,qaf,qap,qa9,zaj,decide_true,decide_false,qaa,cond_true,cond_false,qaj,zab,zaa,qab,zaB]
   by_cases g:b=1<;>simp only[g,if_true,if_false,decide_true,decide_false,cond_true,cond_false]
 ·match z,h10 h with
  |[a],_=>
   obtain⟨i0,l0⟩:=qtN (qag CP N E) (a:=a) (r:=[])
   simp -implicitDefEqProofs only[h,hz,i0,l0,if_true,if_false,qbi,zas,zaK,qah,qba,qbX,qd6,qad,qaf,qap,qa9,zaj,decide_true,decide_false,qaa,cond_true,cond_false,qaj,zab,zaa,qab,zaB]
   cases qbe t.n<;>cases decide (t.m<0)<;>cases decide (t.m<t.n)<;>rfl
 ·match z,h7 (.inr (.inr (.inl h))) with
  |[a,b],_=>
   obtain⟨i0,l0⟩:=qtN (qag CP N E) (a:=a) (r:=[b])
   obtain⟨i1,l1⟩:=quk (qag CP N E) (a:=a) (b:=b) (r:=[])
   simp -implicitDefEqProofs only[h,i0,l0,i1,l1,if_true,if_false,true_or,zas,zaK,qah,qba,qbX,qd6,qad,qaf,qap,qa9,zaj,decide_true,decide_false,qaa,cond_true,cond_false,qaj,zab,zaa,qab,zaB]
   by_cases g:a=b<;>simp only[g,if_true,if_false,decide_true,decide_false,cond_true,cond_false]
 ·match z,h7 (.inr (.inr (.inr h))) with
  |[a,b],_=>
   obtain⟨i0,l0⟩:=qtN (qag CP N E) (a:=a) (r:=[b])
   obtain⟨i1,l1⟩:=quk (qag CP N E) (a:=a) (b:=b) (r:=[])
   simp -implicitDefEqProofs only[h,i0,l0,i1,l1,if_true,if_false,or_true,zas,zaK,qah,qba,qbX,qd6,qad,qaf,qap,qa9,zaj,decide_true,decide_false,qaa,cond_true,cond_false,qaj,zab,zaa,qab,zaB]
   by_cases g:a=b<;>simp only[g,if_true,if_false,decide_true,decide_false,cond_true,cond_false]
 ·simp -implicitDefEqProofs only[h,if_true,if_false,qbi,or_self,qah,qba,qbX,qd6,qad,qaf,qap,qa9,zaj,decide_true,decide_false,qaa,cond_true,cond_false,qaj,zab,zaa]
  by_cases g:t.n<0<;>by_cases g':t.n<lab<;>simp only[g,g',decide_true,decide_false,zak,zal,zat,zaS,zau,cond_true,cond_false,if_true,if_false,zai]
 ·simp -implicitDefEqProofs only[h,if_true,if_false,or_self,qah,qba,qbX,qd6,qad,qaf,qap,qa9,zaj,decide_true,decide_false,qaa,cond_true,cond_false,qaj,zab,zaa]
 ·simp -implicitDefEqProofs only[h,if_false,or_self,qah,qba,qbX,qd6,qad,qaf,qap,qa9,decide_false,qaa,cond_false,qaj,zab,zaa]
end Go.AI.Tryz
namespace Go.AI.Tryz
def usR (l:List Sn)(t:Tm)(f:Tm->Bs->Bool):Int:=match qd7 l t.i with
 |none=>0
 |some e=>if e.arg then 0 else if e.ty.res.cell then 0 else if qbu f t.ks e.ty.ps then e.ty.res.n else 0
def Ty.c (t:Ty):List zA:=[.p (.sl t.ps.length (qaQ Bs.cells t.ps)),bl t.res.cell,i64 t.res.n]
theorem tyc (t:Ty):zA.cells (some 3) t.v=some (Ty.c t):=rfl
theorem tyo (t:Ty):over [.sl 0 [] .full,bl false,i64 0] 0 (Ty.c t)=some (Ty.c t):=rfl
theorem ty0 (t:Ty):ldL (Ty.c t) 0 none=some (.p (.sl t.ps.length (qaQ Bs.cells t.ps))):=rfl
theorem ty1 (t:Ty):ldL (Ty.c t) 1 none=some (bl t.res.cell):=rfl
theorem ty2 (t:Ty):ldL (Ty.c t) 2 none=some (i64 t.res.n):=rfl
theorem qtO {a b:Nat}:(Int.ofNat a=Int.ofNat b)=(a=b):=by simp only[zaf,eq_iff_iff];omega
theorem qxm (l:List Sn)(hl:l.length<=1000000)(t:Tm)(ht:t.ks.length<=1000000)(lab:Int)(f:Tm->Bs->Bool)(hf:∀u∈t.ks,∀p:Bs,PC CP 68 [u.v,p.v,sw l,i64 lab] (bl (f u p))):PC CP 172 [t.v,sw l,i64 lab] (i64 (usR l t f)):=by
 refine PC.of2 (cf:=cf172) (np:=3) (args':=[t.v,sw l,i64 lab]) (by kernel_rfl) (by kernel_rfl) rfl (by first|rfl|(simp only[zap,qal];rfl)) (by first|rfl|(simp only[zam,qai];rfl)) (fun lo=>by first|rfl|exact qaM lo _|exact qaR lo _|exact qce lo _ _) (Ev.mono ((Ev.all (t.ks.zip ((qd7 l t.i).getD ⟨⟨[],⟨false,0⟩⟩,false,false⟩).ty.ps) (fun x hx=>hf x.1 (List.of_mem_zip hx).1 x.2)).and (Ev.ge (t.ks.length+1))) fun N ⟨h68,hn⟩ E s=>⟨i64 (usR l t f),s,(s172_eq _ _ _ _ _ _).trans ?_,(by first|rfl|exact qai _|exact qaN _|exact qb1 _ _)⟩)
 unfold s172 s172_2 s172_1 usR
 cases h:qd7 l t.i with
 |none=>
  by_cases h1:t.i<1
  ·simp -implicitDefEqProofs only[h1,qah,qcJ,qbj,qad,qap,qaC,qa0,decide_true,qaa,cond_true,qaj,zab,zaa,qbo]
  ·have h2:Int.ofNat l.length<t.i:=by rcases qtL h with h|h;exact absurd h h1;exact h
   simp -implicitDefEqProofs only[h1,h2,qah,qcJ,qbj,qad,qap,qaC,qa0,decide_true,decide_false,qaa,cond_true,cond_false,qaj,zab,zaa,qbo]
 |some x=>
  rw[h] at h68
  simp only[zaB] at h68
  obtain⟨j,hj0,hj,hx⟩:=qkW h
  obtain⟨h1,h2,h3⟩:=qvG hj hl
  simp -implicitDefEqProofs only[hj0,h1,h2,h3,qbV hj,snty _ _ hx,qsp _ _ hx,tyc,tyo,ty0,ty1,qah,qcJ,qbj,qad,qa6,qap,qaC,qa0,decide_false,qaa,cond_true,cond_false,qaj,zab,zaa,qab,qbo]
  cases hax:x.arg
  ·cases hcx:x.ty.res.cell
   ·by_cases hlen:x.ty.ps.length=t.ks.length
    ·simp only[hlen,if_false,zai,decide_true,zak,cond_false]
     unfold s172_0
     generalize hF:(fun(h16:zA->ASt->Res) (x14:zA) (s15:ASt)=>_)=F
     refine(qcH _ F t.ks.length (fun j L=>L (i64 (.ofNat j)) s) (fun j=>some (i64 (if qbu f (t.ks.drop j) (x.ty.ps.drop j) then x.ty.res.n else 0),s)) (fun j L hj ih=>?_) (fun L=>?_) N 0 (za3 _) (by omega))
     ·subst hF
      have hjp:j<x.ty.ps.length:=by omega
      have hk:t.ks[j]? =some t.ks[j]:=zah hj
      have hp:x.ty.ps[j]? =some x.ty.ps[j]:=zah hjp
      have hm:(t.ks[j],x.ty.ps[j])∈t.ks.zip x.ty.ps:=by
       rw[List.mem_iff_getElem]
       exact⟨j,by rw[List.length_zip];omega,List.getElem_zip⟩
      have hc:=h68 _ hm
      have hld:∀s,ldH (qag CP N E) s (.elem (qaQ Bs.cells x.ty.ps) (j*2)) (some 2)=some x.ty.ps[j].v:=fun s=>qdr (c:=Bs.cells) (sz:=2) (fun _=>rfl) _ s hp
      have hip:iaV 2 (.p (.sl t.ks.length (qaQ Bs.cells x.ty.ps))) (i64 (.ofNat j))=some (qaQ Bs.cells x.ty.ps,j*2):=by rw[<-hlen];exact qbV hjp
      rw[zaz hj,zaz hjp]
      simp only[qbu]
      simp -implicitDefEqProofs only[ty0,hlen,of_lt.2 hj,Tm.ia_kid hj,Tm.ld_kid _ _ hk,hip,hld,hc,qaO (show j<9223372036854775807 by omega),qbj,qad,qap,qay,decide_true,qaa,cond_true,zab,zaa,qab,qam,qbo]
      by_cases g:f t.ks[j] x.ty.ps[j]=true
      ·simp only[g,zak,cond_false,zax]
       exact ih
      ·simp only[zaR] at g
       simp only[g,zal,cond_true,zau,if_false,zai]
     ·subst hF
      have h3:¬(Int.ofNat t.ks.length<Int.ofNat t.ks.length):=fun h=>zaZ _ (of_lt.1 h)
      rw[List.drop_of_length_le (zan _),List.drop_of_length_le (by omega)]
      simp only[ty2,h3,qbu,if_true,qbj,qad,qap,qay,decide_false,qaa,cond_false,zab,zaa,qbo]
    ·have:=qfM f t.ks x.ty.ps (fun h=>hlen h.symm)
     simp only[this,qtO,hlen,if_false,zai,decide_false,zal,cond_true,cond_false]
   ·simp only[if_true,if_false,zai,cond_true,cond_false]
  ·simp only[if_true,cond_true]
end Go.AI.Tryz
namespace Go.AI.Tryz
def snD:Sn:=⟨⟨[],⟨false,0⟩⟩,false,false⟩
def tlR (l:List Sn)(lab:Int)(t:Tm)(z:List Int)(f:Tm->Bs->Bool):Int:=
 if t.k=1 then(if qbe t.m&&qbi t.n t.m then t.m else 0)
 else if t.k=2 then usR l t f
 else if t.k=3 then(if qcj l t.i 0 then((qd7 l t.i).getD snD).ty.res.n else 0)
 else if t.k=4 then(if qcj l t.i (z[0]?.getD 0) then 1 else 0)
 else if t.k=5 then(if t.n<1\/5<t.n\/qbe t.m=false\/z[0]?.getD 0≠t.m\/z[1]?.getD 0≠t.m then 0 else if 4<=t.n then 2 else t.m)
 else if t.k=18 then(if qcj l t.i 0&&(((qd7 l t.i).getD snD).new&&qbi t.n ((qd7 l t.i).getD snD).ty.res.n) then z[0]?.getD 0 else 0)
 else if t.k=15 then(match qd7 l t.i with
  |none=>0
  |some x=>if x.arg then x.ty.res.n else 0)
 else flR t.k t.n t.m lab z
theorem qhv {l:List Sn}{i z:Int}(h:qcj l i z=true):∃x,qd7 l i=some x:=by
 unfold qcj at h
 cases hx:qd7 l i with
 |none=>rw[hx] at h;cases h
 |some x=>exact⟨x,rfl⟩
theorem qvK {N:Nat}{E:qaU}(l:List Sn)(hl:l.length<=1000000)(t:Tm)(lab:Int)(z:List Int)(f:Tm->Bs->Bool)(x8:zA)(hx:∀i,iaV 1 x8 i=iaV 1 (iv z) i)(he:qaF x8=iv z)
  (h1:t.k=4\/t.k=18->z.length=1)(h2:t.k=5->z.length=2)
  (c118:∀w,w=0\/w=z[0]?.getD 0->∀s,cl (qag CP N E) 118 [sw l,i64 t.i,i64 w] s=some (bl (qcj l t.i w),s))(c171:∀s,cl (qag CP N E) 171 [i64 t.m] s=some (bl (qbe t.m),s))
  (c172:t.k=2->∀s,cl (qag CP N E) 172 [t.v,sw l,i64 lab] s=some (i64 (usR l t f),s))(c173:∀s,cl (qag CP N E) 173 [t.v,x8,i64 lab] s=some (i64 (flR t.k t.n t.m lab z),s))(s:ASt):
  s116_8 (qag CP N E) N t.c (sw l) (i64 lab) x8 s=some (i64 (tlR l lab t z f),s):=by
 have hk:t.k=1\/t.k=2\/t.k=3\/t.k=4\/t.k=5\/t.k=18\/t.k=15\/(t.k≠1/\t.k≠2/\t.k≠3/\t.k≠4/\t.k≠5/\t.k≠18/\t.k≠15):=by omega
 unfold s116_8 s116_7 s116_6 s116_5 s116_4 s116_3 s116_2 s116_1 s116_0 tlR
 rcases hk with h|h|h|h|h|h|h|h
 ·simp -implicitDefEqProofs only[h,c171,if_true,qbi,qaS,qba,qbX,qd6,qcJ,qad,qaf,qap,qaC,qbc,qa9,qa0,zaj,decide_true,decide_false,qaa,cond_true,cond_false,qaj,zab,zaa,qab,qam,qbo]
  cases qbe t.m
  ·simp only[cond_false,zau,zai,if_false]
  ·by_cases g:t.n<0<;>by_cases g':t.n<t.m<;>simp only[g,g',decide_true,decide_false,zak,zal,zat,zaS,zau,cond_true,cond_false,if_true,if_false,zai]
 ·have c172:=c172 h
  simp -implicitDefEqProofs only[h,c172,if_true,if_false,qaS,qba,qbX,qd6,qcJ,qad,qaf,qap,qaC,qbc,qa9,qa0,zaj,decide_true,decide_false,qaa,cond_true,cond_false,qaj,zab,zaa,qab,qbo]
 ·have c118:=c118 0 (.inl rfl)
  by_cases hc:qcj l t.i 0=true
  ·obtain⟨x,hg⟩:=qhv hc
   obtain⟨j,hj0,hj,hxx⟩:=qkW hg
   obtain⟨g1,g2,g3⟩:=qvG hj hl
   rw[hg]
   simp only[hj0] at hc c118⊢
   simp -implicitDefEqProofs only[h,hc,hj0,c118,g3,qbV hj,qp3 _ _ hxx,if_true,if_false,qaS,qba,qbX,qd6,qcJ,qad,qaf,qap,qaC,qbc,qa9,qa0,zaj,decide_true,decide_false,qaa,cond_true,cond_false,qaj,zab,zaa,qab,qbo,zaB]
  ·simp only[zaR] at hc
   simp -implicitDefEqProofs only[h,hc,c118,if_true,if_false,zai,qaS,qba,qbX,qd6,qcJ,qad,qaf,qap,qaC,qbc,qa9,qa0,zaj,decide_true,decide_false,qaa,cond_true,cond_false,qaj,zab,zaa,qab,qbo]
 ·match z,h1 (.inl h) with
  |[a],_=>
   obtain⟨i0,l0⟩:=qtN (qag CP N E) (a:=a) (r:=[])
   have c118:=c118 a (.inr rfl)
   simp -implicitDefEqProofs only[h,hx,i0,l0,c118,if_true,if_false,zas,zaK,qaS,qba,qbX,qd6,qcJ,qad,qaf,qa6,qap,qaC,qbc,qa9,qa0,zaj,decide_true,decide_false,qaa,cond_true,cond_false,qaj,zab,zaa,qab,qbo,zaB]
   cases qcj l t.i a<;>rfl
 ·match z,h2 h with
  |[a,b],_=>
   obtain⟨i0,l0⟩:=qtN (qag CP N E) (a:=a) (r:=[b])
   obtain⟨i1,l1⟩:=quk (qag CP N E) (a:=a) (b:=b) (r:=[])
   simp -implicitDefEqProofs only[h,hx,i0,l0,i1,l1,c171,if_true,if_false,zas,zaK,qaS,qba,qbX,qd6,qcJ,qad,qaf,qa6,qap,qaC,qbc,qa9,qa0,zaj,decide_true,decide_false,qaa,cond_true,cond_false,qaj,zab,zaa,qab,qam,qbo,zaB]
   by_cases g1:t.n<1
   ·simp only[g1,true_or,if_true,decide_true,cond_true]
   ·by_cases g2:5<t.n
    ·simp only[g1,g2,true_or,or_true,if_true,decide_true,decide_false,cond_true,cond_false]
    ·cases qbe t.m
     ·simp only[g1,g2,true_or,or_true,if_true,decide_false,zal,cond_true,cond_false]
     ·by_cases g3:a=t.m
      ·by_cases g4:b=t.m
       ·by_cases g5:t.n<4
        ·have:¬4≤t.n:=by omega
         simp only[g1,g2,g3,g4,g5,this,ne_eq,not_true_eq_false,or_false,Bool.true_eq_false,if_false,decide_true,decide_false,zak,cond_false]
        ·have:4≤t.n:=by omega
         simp only[g1,g2,g3,g4,g5,this,ne_eq,not_true_eq_false,or_false,Bool.true_eq_false,if_false,if_true,decide_true,decide_false,zak,zal,cond_true,cond_false]
       ·simp only[g1,g2,g3,g4,ne_eq,not_false_eq_true,or_true,if_true,decide_true,decide_false,zak,zal,cond_true,cond_false]
      ·simp only[g1,g2,g3,ne_eq,not_false_eq_true,true_or,or_true,if_true,decide_false,zak,zal,cond_true,cond_false]
 ·match z,h1 (.inr h) with
  |[a],_=>
   obtain⟨i0,l0⟩:=qtN (qag CP N E) (a:=a) (r:=[])
   have c118:=c118 0 (.inl rfl)
   by_cases hc:qcj l t.i 0=true
   ·obtain⟨x,hg⟩:=qhv hc
    obtain⟨j,hj0,hj,hxx⟩:=qkW hg
    obtain⟨g1,g2,g3⟩:=qvG hj hl
    rw[hg]
    simp only[hj0] at hc c118⊢
    simp -implicitDefEqProofs only[h,hx,i0,l0,hc,hj0,c118,g3,qbV hj,qp3 _ _ hxx,qvI _ _ hxx,qbi,if_true,if_false,zax,zas,qaS,qba,qbX,qd6,qcJ,qad,qaf,qa6,qap,qaC,qbc,qa9,qa0,zaj,decide_true,decide_false,qaa,cond_true,cond_false,qaj,zab,zaa,qab,qbo,zaB]
    by_cases q1:x.new=true
    ·by_cases g:t.n<0<;>by_cases g':t.n<x.ty.res.n<;>simp only[q1,g,g',decide_true,decide_false,zak,zal,zat,zaS,zau,cond_true,cond_false,if_true,if_false,zai]
    ·simp only[zaR] at q1
     simp only[q1,zau,cond_false,if_false,zai]
   ·simp only[zaR] at hc
    simp -implicitDefEqProofs only[h,hc,c118,if_true,if_false,zau,zai,qaS,qba,qbX,qd6,qcJ,qad,qaf,qap,qaC,qbc,qa9,qa0,zaj,decide_true,decide_false,qaa,cond_true,cond_false,qaj,zab,zaa,qab,qbo]
 ·cases hg:qd7 l t.i with
  |none=>
   by_cases h1:t.i<1
   ·simp -implicitDefEqProofs only[h,h1,if_true,if_false,qaS,qba,qbX,qd6,qcJ,qad,qaf,qap,qaC,qbc,qa9,qa0,zaj,decide_true,decide_false,zak,qaa,cond_true,cond_false,qaj,zab,zaa,qbo,zaG]
   ·have h2:Int.ofNat l.length<t.i:=by rcases qtL hg with h|h;exact absurd h h1;exact h
    simp -implicitDefEqProofs only[h,h1,h2,if_true,if_false,qaS,qba,qbX,qd6,qcJ,qad,qaf,qap,qaC,qbc,qa9,qa0,zaj,decide_true,decide_false,zak,zal,qaa,cond_true,cond_false,qaj,zab,zaa,qbo,zaG]
  |some x=>
   obtain⟨j,hj0,hj,hxx⟩:=qkW hg
   obtain⟨g1,g2,g3⟩:=qvG hj hl
   simp -implicitDefEqProofs only[h,hj0,g1,g2,g3,qbV hj,qp3 _ _ hxx,qsp _ _ hxx,if_true,if_false,qaS,qba,qbX,qd6,qcJ,qad,qaf,qap,qaC,qbc,qa9,qa0,zaj,decide_true,decide_false,zal,qaa,cond_true,cond_false,qaj,zab,zaa,qab,qbo,zaB]
   cases x.arg<;>rfl
 ·simp -implicitDefEqProofs only[h,c173,if_false,qaS,qba,qbX,qd6,qcJ,qad,qaf,qap,qaC,qbc,qa9,qa0,decide_false,qaa,cond_true,cond_false,qaj,zab,zaa,qab,qbo]
end Go.AI.Tryz
namespace Go.AI.Tryz
def kl (l:List Sn)(t:Tm):List Sn:=if t.k=10 then l++[Sn.cell t.n] else l
def qm5 (lab:Int)(t:Tm)(j:Nat):Int:=if t.k=11/\j=0 then lab+1 else lab
theorem qxn {p:Nat->Prop}:∀n,p n->∃m,m<=n/\p m/\∀i,i<m->¬p i:=by
 intro n
 induction n using Nat.strongRecOn with
 |_ n ih=>
  intro hn
  by_cases h:∃i,i<n/\p i
  ·obtain⟨i,hi,hp⟩:=h
   obtain⟨m,h1,h2,h3⟩:=ih i hi hp
   exact⟨m,by omega,h2,h3⟩
  ·exact⟨n,zan _,hn,fun i hi hp=>h ⟨i,hi,hp⟩⟩
section
variable {N:Nat} {E:qaU} {l:List Sn} {t:Tm} {lab:Int} {Z:List Int} (hl0:0<=lab) (hl1:lab<=1000000) (ht:t.ks.length<=1000000) (hZ:Z.length=t.ks.length)
 (c122:∀s,cl (qag CP N E) 122 [i64 t.n] s=some ((Sn.cell t.n).v,s)) (c119:∀s,cl (qag CP N E) 119 [sw l,(Sn.cell t.n).v] s=some (sw (l++[Sn.cell t.n]),s))
 (c116:∀j,∀hj:j<t.ks.length,∀s,cl (qag CP N E) 116 [t.ks[j].v,sw (kl l t),i64 (qm5 lab t j)] s=some (i64 (Z[j]'(by omega)),s)) (J:zA->ASt->Res)
include hl0 hl1 ht hZ c122 c119 c116
theorem qe5 (j:Nat)(hj:j<t.ks.length)(s:ASt)(h126:zA->zA->ASt->Res):(ldL t.c 4 none).bind (fun x127=>(ln false x127).bind fun x128=>(bn .lss (i64 (.ofNat j)) x128).bind fun x129=>
  qae x129 ((ldL t.c 0 none).bind fun x130=>(bn .eql x130 (u8 10)).bind fun x131=>jn (s116_11 (qag CP N E) N t.c (i64 (.ofNat j)) (qb9 (fun j=>qaQ qcT (Z.take j)) s.ntok j) h126 (i64 lab)) fun j153=>
  qae x131 ((ldL t.c 1 none).bind fun x154=>qac (cl (qag CP N E) 122 [x154] (qc5 s 1 j)) fun x155 s156=>qac (cl (qag CP N E) 119 [sw l,x155] s156) fun x157 s158=>j153 x157 s158) (j153 (sw l) (qc5 s 1 j)))
  (J (qb9 (fun j=>qaQ qcT (Z.take j)) s.ntok j) (qc5 s 1 j)))=if Z[j]'(by omega)=0 then some (i64 0,qc5 s 1 j) else h126 (qb9 (fun j=>qaQ qcT (Z.take j)) s.ntok (j+1)) (i64 (.ofNat (j+1))) (qc5 s 1 (j+1)):=by
 have hk:t.ks[j]? =some t.ks[j]:=zah hj
 have hc:=c116 j hj
 have hw:qbb .i64 (lab+1)=lab+1:=qbt (by omega) (by omega)
 have hms:∀a:Int,ms 1 [.int .i64 0] [(0,none,.c (i64 a))]=some (.sl 1 (qcT a) .full):=fun _=>rfl
 have hap:=qfp (qag CP N E) (sz:=1) (b:=8) (f:=fun j=>qaQ qcT (Z.take j)) (y:=.sl 1 (qcT (Z[j]'(by omega))) .full) s j rfl rfl (by omega) (qbZ (c:=qcT) (by omega))
 have e0:(Int.ofNat j=0)=(j=0):=by simp only[zaf,eq_iff_iff];omega
 have fin:∀(x1 x2:zA),x1=sw (kl l t)->x2=i64 (qm5 lab t j)->s116_9 (qag CP N E) N t.c (i64 (.ofNat j)) (qc5 s 1 j) x1 (qb9 (fun j=>qaQ qcT (Z.take j)) s.ntok j) h126 x2=if Z[j]'(by omega)=0 then some (i64 0,qc5 s 1 j) else h126 (qb9 (fun j=>qaQ qcT (Z.take j)) s.ntok (j+1)) (i64 (.ofNat (j+1))) (qc5 s 1 (j+1)):=by
  rintro _ _ rfl rfl
  unfold s116_9
  simp -implicitDefEqProofs only[Tm.ia_kid hj,Tm.ld_kid _ _ hk,hc,hms,hap,qaO (show j<9223372036854775807 by omega),qbj,qad,qaf,qay,qaa,zab,zaa,qab]
  by_cases g:Z[j]'(by omega)=0
  ·simp only[g,if_true,decide_true,cond_true]
  ·simp only[g,if_false,decide_false,cond_false]
 have h11:∀x1,x1=sw (kl l t)->s116_11 (qag CP N E) N t.c (i64 (.ofNat j)) (qb9 (fun j=>qaQ qcT (Z.take j)) s.ntok j) h126 (i64 lab) x1 (qc5 s 1 j)=if Z[j]'(by omega)=0 then some (i64 0,qc5 s 1 j) else h126 (qb9 (fun j=>qaQ qcT (Z.take j)) s.ntok (j+1)) (i64 (.ofNat (j+1))) (qc5 s 1 (j+1)):=by
  rintro x1 hx1
  unfold s116_11 s116_10
  generalize s116_9 (qag CP N E) N=G at fin⊢
  by_cases h:t.k=11
  ·by_cases g:j=0
   ·have:=fin x1 (i64 (lab+1)) hx1 (by unfold qm5;rw[if_pos ⟨h,g⟩])
    simp -implicitDefEqProofs only[h,g,hw,qba,qad,qaf,qay,decide_true,qaa,cond_true,qaj,zab,zaa]
    simp only[g] at this
    exact this
   ·have:=fin x1 (i64 lab) hx1 (by unfold qm5;rw[if_neg (fun q=>g q.2)])
    simp -implicitDefEqProofs only[h,e0,g,hw,this,qba,qad,qaf,qay,decide_true,decide_false,qaa,cond_true,cond_false,qaj,zab,zaa]
  ·have:=fin x1 (i64 lab) hx1 (by unfold qm5;rw[if_neg (fun q=>h q.1)])
   simp -implicitDefEqProofs only[h,e0,hw,this,qba,qad,qaf,qay,decide_false,qaa,cond_false,qaj,zab,zaa]
 generalize s116_11 (qag CP N E) N=G at h11⊢
 by_cases h:t.k=10
 ·have:=h11 (sw (l++[Sn.cell t.n])) (by unfold kl;rw[if_pos h])
  simp -implicitDefEqProofs only[h,of_lt.2 hj,c122,c119,this,qba,qbX,qbj,qad,qaf,qap,decide_true,qaa,cond_true,qaj,zab,zaa,qab,qbo]
 ·have:=h11 (sw l) (by unfold kl;rw[if_neg h])
  simp -implicitDefEqProofs only[h,of_lt.2 hj,this,qba,qbX,qbj,qad,qaf,qap,decide_true,decide_false,qaa,cond_true,cond_false,qaj,zab,zaa,qbo]
end
end Go.AI.Tryz
namespace Go.AI.Tryz
section
variable {N:Nat} {E:qaU} {l:List Sn} {t:Tm} {lab:Int} {Z:List Int} (hl0:0<=lab) (hl1:lab<=1000000) (ht:t.ks.length<=1000000) (hZ:Z.length=t.ks.length)
 (c122:∀s,cl (qag CP N E) 122 [i64 t.n] s=some ((Sn.cell t.n).v,s)) (c119:∀s,cl (qag CP N E) 119 [sw l,(Sn.cell t.n).v] s=some (sw (l++[Sn.cell t.n]),s))
 (c116:∀j,∀hj:j<t.ks.length,∀s,cl (qag CP N E) 116 [t.ks[j].v,sw (kl l t),i64 (qm5 lab t j)] s=some (i64 (Z[j]'(by omega)),s)) (J:zA->ASt->Res) (hN:t.ks.length+1<=N)
include hl0 hl1 ht hZ c122 c119 c116 hN
theorem qp5 (hnz:∀j,∀hj:j<t.ks.length,Z[j]'(by omega)≠0)(s:ASt):s116_12 (qag CP N E) N t.c (i64 lab) (sw l) J (.sl 0 [] .full) (i64 0) s=J (qb9 (fun j=>qaQ qcT (Z.take j)) s.ntok t.ks.length) (qc5 s 1 t.ks.length):=by
 unfold s116_12
 refine qcH _ _ t.ks.length (fun j (L:zA->zA->ASt->Res)=>L (qb9 (fun j=>qaQ qcT (Z.take j)) s.ntok j) (i64 (.ofNat j)) (qc5 s 1 j)) (fun _=>J (qb9 (fun j=>qaQ qcT (Z.take j)) s.ntok t.ks.length) (qc5 s 1 t.ks.length)) (fun j L hj ih=>?_) (fun L=>?_) N 0 (za3 _) (by omega)
 ·refine(qe5 hl0 hl1 ht hZ c122 c119 c116 J j hj s L).trans ?_
  rw[if_neg (hnz j hj)]
  exact ih
 ·have h3:¬(Int.ofNat t.ks.length<Int.ofNat t.ks.length):=fun h=>zaZ _ (of_lt.1 h)
  generalize s116_11 (qag CP N E) N=G
  simp -implicitDefEqProofs only[h3,qba,qbX,qbj,qad,qaf,qap,decide_false,qaa,cond_false,qaj,zab,zaa,qbo]
theorem qp6 (hz:∃j,∃hj:j<t.ks.length,Z[j]'(by omega)=0)(s:ASt):∃s',s116_12 (qag CP N E) N t.c (i64 lab) (sw l) J (.sl 0 [] .full) (i64 0) s=some (i64 0,s'):=by
 obtain⟨j0,hj0,hz0⟩:=hz
 obtain⟨m,_,⟨hm,hm0⟩,hlt⟩:=qxn (p:=fun j=>∃hj:j<t.ks.length,Z[j]'(by omega)=0) j0 ⟨hj0,hz0⟩
 refine⟨qc5 s 1 m,?_⟩
 unfold s116_12
 refine qcH _ _ m (fun j (L:zA->zA->ASt->Res)=>L (qb9 (fun j=>qaQ qcT (Z.take j)) s.ntok j) (i64 (.ofNat j)) (qc5 s 1 j)) (fun _=>some (i64 0,qc5 s 1 m)) (fun j L hj ih=>?_) (fun L=>?_) N 0 (za3 _) (by omega)
 ·refine(qe5 hl0 hl1 ht hZ c122 c119 c116 J j (by omega) s L).trans ?_
  rw[if_neg (fun h=>hlt j hj ⟨by omega,h⟩)]
  exact ih
 ·refine(qe5 hl0 hl1 ht hZ c122 c119 c116 J m hm s L).trans ?_
  rw[if_pos hm0]
end
def szR (l:List Sn)(lab:Int)(t:Tm)(z:List Int)(f:Tm->Bs->Bool):Int:=
 if fR t=false then 0 else if 0<=kR t.k/\kR t.k≠Int.ofNat t.ks.length then 0 else if t.k≠2/\t.k≠17/\0∈z then 0 else tlR l lab t z f
theorem qtP (f:Nat->List zP)(h0:f 0=[])(k m:Nat)(i:zA):iaV 1 (qb9 f k m) i=iaV 1 (.p (.sl m (f m))) i:=by
 cases m with
 |zero=>rw[h0];rfl
 |succ m=>rfl
theorem qtQ (l:List Sn)(hl:l.length<=999999)(t:Tm)(ht:t.ks.length<=1000000)(lab:Int)(hl0:0<=lab)(hl1:lab<=1000000)(Z:List Int)(f:Tm->Bs->Bool)
  (hZ:t.k≠2->t.k≠17->Z.length=t.ks.length)(hc:t.k≠2->t.k≠17->∀x∈(List.range t.ks.length),∀u z,t.ks[x]? =some u->Z[x]? =some z->PC CP 116 [u.v,sw (kl l t),i64 (qm5 lab t x)] (i64 z))
  (hf:∀u∈t.ks,∀p:Bs,t.k=2->PC CP 68 [u.v,p.v,sw l,i64 lab] (bl (f u p)))(h17:t.k=2\/t.k=17->Z=[]):PC CP 116 [t.v,sw l,i64 lab] (i64 (szR l lab t Z f)):=by
 have evf:=qkY t
 have evk:=qrB t.k
 by_cases hform:fR t=true/\¬(0<=kR t.k/\kR t.k≠Int.ofNat t.ks.length)
 ·have hz1:t.k=4∨t.k=18∨t.k=10→t.ks.length=1:=fun h=>by
   have:=hform.2
   have hk:kR t.k=1:=by rcases h with h|h|h<;>simp[kR,h]
   rw[hk] at this
   simp only[zaf] at this
   omega
  have hz2:t.k=5\/t.k=7\/t.k=9\/t.k=11\/t.k=13->t.ks.length=2:=fun h=>by
   have:=hform.2
   have hk:kR t.k=2:=by rcases h with h|h|h|h|h<;>simp[kR,h]
   rw[hk] at this
   simp only[zaf] at this
   omega
  have hz3:t.k=8->t.ks.length=3:=fun h=>by
   have:=hform.2
   have hk:kR t.k=3:=by simp[kR,h]
   rw[hk] at this
   simp only[zaf] at this
   omega
  have hlen:t.k≠2->t.k≠17->Z.length=t.ks.length:=hZ
  have e173:=qvJ t lab Z (fun h=>by rw[hlen (by omega) (by omega)];exact hz2 (by omega)) (fun h=>by rw[hlen (by omega) (by omega)];exact hz3 h) (fun h=>by rw[hlen (by omega) (by omega)];exact hz1 (by omega))
  have e172:Ev fun n=>t.k=2->∀E s,cl (qag CP n E) 172 [t.v,sw l,i64 lab] s=some (i64 (usR l t f),s):=by
   by_cases h:t.k=2
   ·exact(qxm l (by omega) t ht lab f (fun u hu p=>hf u hu p h)).mono fun n hn _=>hn
   ·exact ev0.mono fun n _ h'=>absurd h' h
  have e116:Ev fun n=>t.k≠2->t.k≠17->∀x∈List.range t.ks.length,∀u z,t.ks[x]? =some u->Z[x]? =some z->∀E s,cl (qag CP n E) 116 [u.v,sw (kl l t),i64 (qm5 lab t x)] s=some (i64 z,s):=by
   by_cases h:t.k≠2/\t.k≠17
   ·have:=Ev.all (List.range t.ks.length) (fun x hx=>(show Ev fun n=>∀u z,t.ks[x]? =some u→Z[x]? =some z→∀E s,cl (qag CP n E) 116 [u.v,sw (kl l t),i64 (qm5 lab t x)] s=some (i64 z,s) from by
     have hxl:=za9.1 hx
     have hzl:=hlen h.1 h.2
     exact(hc h.1 h.2 x hx t.ks[x] (Z[x]'(by omega)) (zah _) (zah _)).mono fun n hn u z hu hz=>by
      rw[zah hxl] at hu
      rw[zah (by omega)] at hz
      cases hu;cases hz
      exact hn))
    exact this.mono fun n hn _ _=>hn
   ·exact ev0.mono fun n _ h1 h2=>absurd ⟨h1,h2⟩ h
  refine PC.of2 (cf:=cf116) (np:=3) (args':=[t.v,sw l,i64 lab]) (by kernel_rfl) (by kernel_rfl) rfl (by simp only[zap,qal];rfl) (by simp only[zam,qai];rfl) (fun _=>rfl)
   (((evf.and evk).and ((e172.and (e173.and e116)).and (((qjt l (by omega) t.i 0).and (qjt l (by omega) t.i (Z[0]?.getD 0))).and (((qkX t.m).and (qp4 t.n)).and ((qju l (by omega) (Sn.cell t.n)).and (Ev.ge (t.ks.length+1))))))).mono
    fun N ⟨⟨c117,c170⟩,⟨c172,c173,c116⟩,⟨c118,c118'⟩,⟨c171,c122⟩,c119,hN⟩ E s=>?_)
  have c118c:∀w,w=0\/w=Z[0]?.getD 0->∀s,cl (qag CP N E) 118 [sw l,i64 t.i,i64 w] s=some (bl (qcj l t.i w),s):=by
   rintro w (rfl|rfl) s
   ·exact c118 E s
   ·exact c118' E s
  have hbeg:∀r,s116_13 (qag CP N E) N t.c (sw l) (i64 lab) s (bl (decide (t.k≠2/\t.k≠17)))=some r->s116 (qag CP N E) N t.v (sw l) (i64 lab) s=some r:=fun r hr=>by
   unfold s116 s116_14
   generalize s116_13 (qag CP N E) N=G at hr⊢
   have hj:∀b,(bif b then some (i64 0,s) else(bn .neq (u8 t.k) (u8 2)).bind fun x=>qae x ((bn .neq (u8 t.k) (u8 17)).bind fun y=>G t.c (sw l) (i64 lab) s y) (G t.c (sw l) (i64 lab) s (bl false)))=if b=true then some (i64 0,s) else some r:=by
    rintro (_|_)
    ·simp only[cond_false,zai,if_false,qad,qa6,qaa,cond_false,zab,zaa]
     by_cases h2:t.k=2
     ·simp only[h2,ne_eq,not_true_eq_false,false_and,zaj,decide_true,decide_false,zak,zal,cond_false] at hr⊢;exact hr
     ·by_cases h3:t.k=17
      ·simp only[h3,ne_eq,not_true_eq_false,and_false,zaj,not_false_eq_true,zaj,decide_true,decide_false,zak,zal,cond_true] at hr⊢;exact hr
      ·simp only[h2,h3,ne_eq,not_false_eq_true,and_self,decide_true,decide_false,zal,cond_true] at hr⊢;exact hr
    ·rfl
   have g2:=hform.2
   by_cases g:0<=kR t.k
   ·have g3:kR t.k=Int.ofNat t.ks.length:=by
     by_cases q:kR t.k=Int.ofNat t.ks.length
     ·exact q
     ·exact absurd ⟨g,q⟩ g2
    have g4:¬kR t.k<0:=by omega
    have:=hj false
    simp only[cond_false,zai,if_false] at this
    simp -implicitDefEqProofs only[c117,c170,hform.1,g3,qah,qaS,qba,qbj,qad,qa6,qa9,decide_true,zak,qaa,cond_true,cond_false,qaj,zab,zaa,qab,qam,qbo]
    simp only[qad,qa6,qaa,zab,zaa] at this
    exact this
   ·have g4:kR t.k<0:=by omega
    have:=hj false
    simp only[cond_false,zai,if_false] at this
    simp -implicitDefEqProofs only[c117,c170,hform.1,g4,qah,qaS,qba,qbj,qad,qa6,qa9,decide_true,zak,qaa,cond_true,cond_false,qaj,zab,zaa,qab,qam,qbo]
    simp only[qad,qa6,qaa,zab,zaa] at this
    exact this
  have h173:∀x8,qaF x8=iv Z->∀s,cl (qag CP N E) 173 [t.v,x8,i64 lab] s=some (i64 (flR t.k t.n t.m lab Z),s):=fun x8 he s=>by
   have:=qfr (CP:=CP) (f:=173) (cf:=cf173) (by kernel_rfl) (by kernel_rfl) N E [t.v,x8,i64 lab] s
   rw[show[t.v,x8,i64 lab].map qaF=[t.v,iv Z,i64 lab] by simp only[zam,zbm,qai,he];rfl,c173 E s] at this
   exact this
  have htail:∀x8,(∀i,iaV 1 x8 i=iaV 1 (iv Z) i)->qaF x8=iv Z->∀s,s116_8 (qag CP N E) N t.c (sw l) (i64 lab) x8 s=some (i64 (tlR l lab t Z f),s):=fun x8 hx he s=>
   qvK l (by omega) t lab Z f x8 hx he (fun h=>by rw[hlen (by omega) (by omega)];exact hz1 (by omega)) (fun h=>by rw[hlen (by omega) (by omega)];exact hz2 (by omega)) c118c (fun s=>c171 E s) (fun h s=>c172 h E s) (h173 x8 he) s
  have hsz:∃s',s116_13 (qag CP N E) N t.c (sw l) (i64 lab) s (bl (decide (t.k≠2/\t.k≠17)))=some (i64 (szR l lab t Z f),s'):=by
   unfold s116_13 szR
   rw[if_neg (by rw[hform.1];simp),if_neg hform.2]
   by_cases h:t.k≠2/\t.k≠17
   ·have hzl:=hlen h.1 h.2
    have c116':∀j,∀hj:j<t.ks.length,∀s,cl (qag CP N E) 116 [t.ks[j].v,sw (kl l t),i64 (qm5 lab t j)] s=some (i64 (Z[j]'(by omega)),s):=fun j hj s=>
     c116 h.1 h.2 j (za9.2 hj) _ _ (zah hj) (zah (by omega)) E s
    rw[qaj,decide_eq_true h,qaa,cond_true]
    by_cases hz:∃j,∃hj:j<t.ks.length,Z[j]'(by omega)=0
    ·obtain⟨s',hs'⟩:=qp6 hl0 hl1 ht hzl (c122 E) (c119 E) c116' (s116_8 (qag CP N E) N t.c (sw l) (i64 lab)) hN hz s
     obtain⟨j,hj,hj0⟩:=hz
     rw[if_pos ⟨h.1,h.2,by rw[<-hj0];exact za5 _⟩]
     exact⟨s',hs'⟩
    ·have hne:∀j,∀hj:j<t.ks.length,Z[j]'(by omega)≠0:=fun j hj h0=>hz ⟨j,hj,h0⟩
     have:=qp5 hl0 hl1 ht hzl (c122 E) (c119 E) c116' (s116_8 (qag CP N E) N t.c (sw l) (i64 lab)) hN hne s
     rw[this,if_neg (fun q=>by
      obtain⟨j,hj,h0⟩:=List.getElem_of_mem q.2.2
      exact hne j (by omega) h0)]
     have hfZ:qaQ qcT (Z.take t.ks.length)=qaQ qcT Z:=by rw[<-hzl,List.take_length]
     refine⟨_,htail _ (fun i=>?_) ?_ _⟩
     ·rw[qtP _ rfl,hfZ,<-hzl]
     ·rw[qfX _ _ _ rfl,hfZ,<-hzl]
   ·have hZ0:Z=[]:=h17 (by by_cases g:t.k=2;exact .inl g;exact .inr (by by_cases g':t.k=17;exact g';exact absurd ⟨g,g'⟩ h))
    rw[qaj,decide_eq_false h,qaa,cond_false,if_neg (fun q=>h ⟨q.1,q.2.1⟩)]
    exact⟨s,htail (.sl 0 [] .full) (fun i=>by rw[hZ0];rfl) (by rw[hZ0];rfl) s⟩
  obtain⟨s',hs'⟩:=hsz
  exact⟨_,s',(s116_eq _ _ _ _ _ _).trans (hbeg _ hs'),rfl⟩
 ·have hr:szR l lab t Z f=0:=by
   unfold szR
   by_cases h1:fR t=false
   ·rw[if_pos h1]
   ·rw[if_neg h1,if_pos]
    by_cases g:0<=kR t.k/\kR t.k≠Int.ofNat t.ks.length
    ·exact g
    ·exact absurd ⟨by simpa using h1,g⟩ hform
  rw[hr]
  refine PC.of2 (cf:=cf116) (np:=3) (args':=[t.v,sw l,i64 lab]) (by kernel_rfl) (by kernel_rfl) rfl (by simp only[zap,qal];rfl) (by simp only[zam,qai];rfl) (fun _=>rfl)
   ((evf.and evk).mono fun N ⟨c117,c170⟩ E s=>⟨i64 0,s,(s116_eq _ _ _ _ _ _).trans ?_,rfl⟩)
  unfold s116 s116_14
  generalize s116_13 (qag CP N E) N=G
  by_cases h1:fR t=true
  ·have g:0≤kR t.k∧kR t.k≠Int.ofNat t.ks.length:=by
    by_cases g:0<=kR t.k/\kR t.k≠Int.ofNat t.ks.length
    ·exact g
    ·exact absurd ⟨h1,g⟩ hform
   have g4:¬kR t.k<0:=by omega
   simp -implicitDefEqProofs only[c117,c170,h1,g4,g.2,qah,qaS,qba,qbj,qad,qa6,qa9,decide_false,zak,zal,qaa,cond_true,cond_false,qaj,zab,zaa,qab,qam,qbo]
  ·simp only[zaR] at h1
   simp -implicitDefEqProofs only[c117,c170,h1,qah,qaS,qba,qbj,qad,qa6,qa9,zal,qaa,cond_true,cond_false,qaj,zab,zaa,qab,qam,qbo]
end Go.AI.Tryz
namespace Go.AI.Tryz
theorem Ev.imp {c:Prop}{P:Nat->Prop}(h:c->Ev P):Ev fun n=>c->P n:=by
 by_cases hc:c
 ·exact(h hc).mono fun n hn _=>hn
 ·exact ev0.mono fun n _ h=>absurd h hc
def agR (l:List Sn)(t:Tm)(b:Bs)(zt z0 z1:Int):Bool:=
 if b.cell=false then !decide (t.k=16)&&(!decide (t.k=17)&&decide (zt=b.n))
 else if fR t=false then false
 else if t.k=16 then decide (Int.ofNat t.ks.length=0)&&qcj l t.i b.n
 else if t.k=17/\t.ks.length=2 then decide (z0=b.n)&&decide (z1=1) else false
theorem bsc (b:Bs):zA.cells (some 2) b.v=some [bl b.cell,i64 b.n]:=rfl
theorem bs0 (a b:zA):ldL [a,b] 0 none=some a:=rfl
theorem bs1 (a b:zA):ldL [a,b] 1 none=some b:=rfl
theorem qvL (l:List Sn)(hl:l.length<=999999)(t:Tm)(b:Bs)(lab:Int)(zt z0 z1:Int)(ht:b.cell=false/\t.k≠16/\t.k≠17->PC CP 116 [t.v,sw l,i64 lab] (i64 zt))(h0:b.cell=true/\t.k=17->∀x∈t.ks[0]?.toList,PC CP 116 [x.v,sw l,i64 lab] (i64 z0))(h1:b.cell=true/\t.k=17->∀x∈t.ks[1]?.toList,PC CP 116 [x.v,sw (l++[Sn.val b.n]),i64 lab] (i64 z1)):PC CP 68 [t.v,b.v,sw l,i64 lab] (bl (agR l t b zt z0 z1)):=by
 refine PC.of2 (cf:=cf68) (np:=4) (args':=[t.v,b.v,sw l,i64 lab]) (by kernel_rfl) (by kernel_rfl) rfl (by first|rfl|(simp only[zap,qal];rfl)) (by first|rfl|(simp only[zam,qai];rfl)) (fun lo=>by first|rfl|exact qaM lo _|exact qaR lo _|exact qce lo _ _) (Ev.mono ((((Ev.imp ht).and (Ev.imp fun c=>Ev.all _ (h0 c))).and (Ev.imp fun c=>Ev.all _ (h1 c))).and ((qkY t).and ((qjt l (by omega) t.i b.n).and ((qsq b.n).and (qju l (by omega) (Sn.val b.n)))))) fun N ⟨⟨⟨ct,c0⟩,c1⟩,c117,c118,c120,c119⟩ E s=>⟨bl (agR l t b zt z0 z1),s,(s68_eq _ _ _ _ _ _ _).trans ?_,(by first|rfl|exact qai _|exact qaN _|exact qb1 _ _)⟩)
 unfold s68 s68_3 s68_2 s68_1 s68_0 agR
 cases hb:b.cell
 ·by_cases h16:t.k=16
  ·simp -implicitDefEqProofs only[bsc,bs0,bs1,hb,h16,if_true,zau,qah,qaS,qba,qad,qa6,zaj,decide_true,decide_false,zak,zal,qaa,cond_true,cond_false,qaj,zab,zaa,qam]
  ·by_cases h17:t.k=17
   ·simp -implicitDefEqProofs only[bsc,bs0,bs1,hb,h17,if_true,zau,zax,qah,qaS,qba,qad,qa6,zaj,decide_true,decide_false,zak,zal,qaa,cond_true,cond_false,qaj,zab,zaa,qam]
   ·have ct:=ct ⟨hb,h16,h17⟩
    simp -implicitDefEqProofs only[bsc,bs0,bs1,hb,h16,h17,ct,if_true,zax,qah,qaS,qba,qad,qaf,qa6,decide_false,zal,qaa,cond_true,cond_false,qaj,zab,zaa,qab,qam]
 ·by_cases hf:fR t=true
  ·by_cases h16:t.k=16
   ·simp -implicitDefEqProofs only[bsc,bs0,bs1,hb,h16,hf,c117,c118,if_true,if_false,Bool.true_eq_false,qah,qaS,qba,qcJ,qbj,qad,qaf,zaj,decide_true,decide_false,zak,zal,qaa,cond_true,cond_false,qaj,zab,zaa,qab,qam,qbo]
    cases decide (Int.ofNat t.ks.length=0)<;>rfl
   ·by_cases h17:t.k=17
    ·by_cases h2:t.ks.length=2
     ·obtain⟨u,w,hks⟩:∃u w,t.ks=[u,w]:=by
       match t.ks,h2 with
       |[u,w],_=>exact⟨u,w,rfl⟩
      have c0:=c0 ⟨hb,h17⟩ u (by rw[hks];exact zaV.2 rfl)
      have c1:=c1 ⟨hb,h17⟩ w (by rw[hks];exact zaV.2 rfl)
      obtain⟨i0,l0⟩:=qb5 (n:=N) (E:=E) (l:=t.ks) (u:=u) (by rw[hks];rfl)
      obtain⟨i1,l1⟩:=qdt (n:=N) (E:=E) (l:=t.ks) (u:=w) (by rw[hks];rfl)
      have hlen:Int.ofNat t.ks.length=2:=by rw[h2];rfl
      simp -implicitDefEqProofs only[bsc,bs0,bs1,hb,h17,h2,hf,c117,i0,l0,i1,l1,c0,c1,c120,c119,if_true,if_false,and_self,Bool.true_eq_false,qah,qaS,qba,qcJ,qbj,qad,qaf,zaj,decide_true,decide_false,zak,zal,qaa,cond_true,cond_false,qaj,zab,zaa,qab,qam,qbo]
      cases decide (z0=b.n)<;>rfl
     ·have hlen:¬Int.ofNat t.ks.length=2:=by simp only[zaf];omega
      simp -implicitDefEqProofs only[bsc,bs0,bs1,hb,h17,h2,hlen,hf,c117,if_false,and_false,Bool.true_eq_false,qah,qaS,qba,qcJ,qbj,qad,qaf,zaj,decide_true,decide_false,zak,zal,qaa,cond_true,cond_false,qaj,zab,zaa,qab,qam,qbo]
    ·simp -implicitDefEqProofs only[bsc,bs0,bs1,hb,h16,h17,hf,c117,if_false,false_and,Bool.true_eq_false,qah,qaS,qba,qcJ,qbj,qad,qaf,decide_false,zak,zal,qaa,cond_false,qaj,zab,zaa,qab,qam,qbo]
  ·simp only[zaR] at hf
   simp -implicitDefEqProofs only[bsc,bs0,bs1,hb,hf,c117,if_true,if_false,Bool.true_eq_false,qah,qaS,qba,qcJ,qbj,qad,qaf,zak,zal,qaa,cond_true,cond_false,qaj,zab,zaa,qab,qam,qbo]
end Go.AI.Tryz
namespace Go.AI.Tryz
def zO (p:Int×Bool):Int:=if p.2 then p.1 else 0
def _root_.Go.AI.Sc.sn (x:Sc):List Sn:=x.ids.mapIdx fun j e=>⟨e.ty,e.arg,decide (x.top<=Int.ofNat j)&&!e.arg⟩
structure ScG (x:Sc):Prop where
 ok:ScOk x
 cell:∀e∈x.ids,e.ty.res.cell=true->e.ty.ps=[]/\e.arg=false
 ps:∀e∈x.ids,∀p∈e.ty.ps,1<=p.n/\p.n<=64
theorem qp7 (x:Sc):x.sn.length=x.ids.length:=List.length_mapIdx
theorem qhw (x:Sc)(i:Int):qd7 x.sn i=(x.get i).map fun e=>⟨e.ty,e.arg,decide (x.top<i)&&!e.arg⟩:=by
 unfold qd7 Sc.get
 by_cases h:i<1
 ·simp only[h,if_true,Option.map_none]
 ·simp only[h,if_false,Sc.sn,List.getElem?_mapIdx]
  have:(x.top<=Int.ofNat (i-1).toNat)=(x.top<i):=by simp only[zaf,eq_iff_iff];omega
  simp only[this]
theorem qjv (x:Sc)(y:Se)(h:x.top<=Int.ofNat x.ids.length):(x.with y).sn=x.sn++[⟨y.ty,y.arg,!y.arg⟩]:=by
 simp only[Sc.sn,Sc.with,List.mapIdx_append,List.mapIdx_cons,List.mapIdx_nil,zaF,decide_eq_true h,zax]
 rfl
theorem qjw {x:Sc}(g:ScG x)(i z:Int):qcj x.sn i z=(x.get i).any fun e=>e.ty.res.cell&&(decide (z=0)||decide (e.ty.res.n=z)):=by
 unfold qcj
 rw[qhw]
 cases h:x.get i with
 |none=>rfl
 |some e=>
  obtain⟨j,_,hj⟩:=Sc.get_inv h
  simp only[zab,Option.any_some]
  cases hc:e.ty.res.cell with
  |false=>simp
  |true=>
   obtain⟨h1,h2⟩:=g.cell e (zaN hj) hc
   rw[h1,h2]
   simp
theorem qkZ {f g:Tm->Bs->Bool}:∀{ks:List Tm} {ps:List Bs},(∀u∈ks,∀p∈ps,f u p=g u p)->qbu f ks ps=qbu g ks ps
 |[],[],_=>rfl
 |[],_::_,_=>rfl
 |_::_,[],_=>rfl
 |u::r,p::q,h=>by
  simp only[qbu]
  rw[h u (zav ..) p (zav ..),qkZ fun u hu p hp=>h u (zaw _ hu) p (zaw _ hp)]
theorem qc7 {x:Sc}(g:ScG x)(u:Tm)(h:(szF x u).2=true):(szF x u).1≠0:=by
 have:=qfu u.size u x (zan _) g.ok h
 omega
theorem qxo {t:Tm}(h:qbq t=true):fR t=true/\¬(0<=kR t.k/\kR t.k≠Int.ofNat t.ks.length):=by
 cases qlL h<;>simp[fR,kR,Tm.k,Tm.n,Tm.m,Tm.i,Tm.ks]
theorem qrC {l:List Sn}{lab:Int}{t:Tm}{z:List Int}{f:Tm->Bs->Bool}(h:qbq t=true):szR l lab t z f=if t.k≠2/\t.k≠17/\0∈z then 0 else tlR l lab t z f:=by
 have:=qxo h
 unfold szR
 rw[if_neg (by rw[this.1];simp),if_neg this.2]
theorem qtR {l:List Sn}{lab:Int}{t:Tm}{z:List Int}{f:Tm->Bs->Bool}(h:qbq t=false):szR l lab t z f=0:=by
 unfold szR
 by_cases h1:fR t=false
 ·rw[if_pos h1]
 ·rw[if_neg h1]
  by_cases h2:0<=kR t.k/\kR t.k≠Int.ofNat t.ks.length
  ·rw[if_pos h2]
  ·rw[if_neg h2]
   simp only[Bool.not_eq_false] at h1
   have hk:(t.k=1\/t.k=2\/t.k=3\/t.k=4\/t.k=5\/t.k=6\/t.k=7\/t.k=8\/t.k=9\/t.k=10\/t.k=11\/t.k=12\/t.k=13\/t.k=14\/t.k=15\/t.k=16\/t.k=17\/t.k=18)\/(t.k<1\/18<t.k):=by omega
   rcases hk with hk|hk
   ·exfalso
    rcases hk with g|g|g|g|g|g|g|g|g|g|g|g|g|g|g|g|g|g<;>simp[qbq,qcq,formL,fR,kR,g] at h h1 h2<;>simp_all
   ·have k1:t.k≠1:=by omega
    have k2:t.k≠2:=by omega
    have k3:t.k≠3:=by omega
    have k4:t.k≠4:=by omega
    have k5:t.k≠5:=by omega
    have k6:t.k≠6:=by omega
    have k7:t.k≠7:=by omega
    have k8:t.k≠8:=by omega
    have k9:t.k≠9:=by omega
    have k10:t.k≠10:=by omega
    have k11:t.k≠11:=by omega
    have k12:t.k≠12:=by omega
    have k13:t.k≠13:=by omega
    have k14:t.k≠14:=by omega
    have k15:t.k≠15:=by omega
    have k18:t.k≠18:=by omega
    simp only[tlR,flR,k1,k2,k3,k4,k5,k6,k7,k8,k9,k10,k11,k12,k13,k14,k15,k18,if_false,or_self]
    exact ite_self _
end Go.AI.Tryz
namespace Go.AI.Tryz
theorem ScG.lab {x:Sc}(g:ScG x)(m:Int):ScG {x with size:=m}:=⟨g.ok,g.cell,g.ps⟩
theorem ScG.cellW {x:Sc}(g:ScG x){n:Int}(h:1<=n/\n<=64):ScG (x.with ⟨⟨[],⟨true,n⟩⟩,false⟩):=by
 refine⟨g.ok.with h,?_,?_⟩<;>(intro e he;simp only[Sc.with,zaO,zaV] at he;rcases he with he|rfl)
 ·exact g.cell e he
 ·exact fun _=>⟨rfl,rfl⟩
 ·exact g.ps e he
 ·intro p hp;cases hp
theorem ScG.valW {x:Sc}(g:ScG x){n:Int}(h:1<=n/\n<=64):ScG (x.with ⟨⟨[],⟨false,n⟩⟩,true⟩):=by
 refine⟨g.ok.with h,?_,?_⟩<;>(intro e he;simp only[Sc.with,zaO,zaV] at he;rcases he with he|rfl)
 ·exact g.cell e he
 ·intro h;cases h
 ·exact g.ps e he
 ·intro p hp;cases hp
theorem qtS {x:Sc}(g:ScG x){t:Tm}(hs:Sh t){Z:List Int}{f:Tm->Bs->Bool}(hZ:t.k≠2->t.k≠17->Z.length=t.ks.length)(h17:t.k=2\/t.k=17->Z=[])
  (hz:t.k≠2->t.k≠17->∀j u z,t.ks[j]? =some u->Z[j]? =some z->ScG (x.kid t j)->z=zO (szF (x.kid t j) u))
  (hf:t.k=2->∀u∈t.ks,∀p:Bs,1<=p.n->p.n<=64->f u p=qds szF x u p):szR x.sn x.size t Z f=zO (szF x t):=by
 rw[qrC (qc0 hs)]
 have Z0:Z.length=0->Z=[]:=zaX.1
 have Z1:Z.length=1->∃a,Z=[a]:=fun h=>match Z,h with|[a],_=>⟨a,rfl⟩
 have Z2:Z.length=2->∃a b,Z=[a,b]:=fun h=>match Z,h with|[a,b],_=>⟨a,b,rfl⟩
 have Z3:Z.length=3->∃a b c,Z=[a,b,c]:=fun h=>match Z,h with|[a,b,c],_=>⟨a,b,c,rfl⟩
 cases hs with
 |num n m=>
  rw[Z0 (hZ (by simp[Tm.k]) (by simp[Tm.k])),qdv]
  simp only[tlR,Tm.k,Tm.n,Tm.m,zO,zaH,and_false,if_false,if_true]
  rfl
 |use i ks=>
  rw[h17 (.inl rfl),qf9]
  simp only[tlR,usR,Tm.k,Tm.i,Tm.ks,qhw,zO,zaj,ne_eq,not_true_eq_false,false_and,if_false,if_true]
  cases he:x.get i with
  |none=>simp
  |some e=>
   obtain⟨j,_,hj⟩:=Sc.get_inv he
   have:qbu f ks e.ty.ps=qbu (qds szF x) ks e.ty.ps:=qkZ fun u hu p hp=>by
    have:=g.ps e (zaN hj) p hp
    exact hf rfl u hu p this.1 this.2
   simp only[zab,this,zaB,zbe,zax]
   cases e.arg<;>cases e.ty.res.cell<;>simp
 |get i=>
  rw[Z0 (hZ (by simp[Tm.k]) (by simp[Tm.k])),qhj]
  simp only[tlR,Tm.k,Tm.i,zO,qjw g,qhw,zaH,and_false,if_false,if_true,zaj,decide_true,zbk,za8]
  cases x.get i<;>rfl
 |put i u=>
  obtain⟨a,rfl⟩:=Z1 (hZ (by simp[Tm.k]) (by simp[Tm.k]))
  have ha:a=zO (szF x u):=hz (by simp[Tm.k]) (by simp[Tm.k]) 0 u a rfl rfl g
  rw[qeI]
  simp only[tlR,Tm.k,Tm.i,qjw g,zaV,zas,zaB,zaj,ne_eq,not_false_eq_true,true_and,if_false,if_true]
  have:=qc7 g u
  cases x.get i with
  |none=>simp[zO]
  |some e=>
   subst ha
   simp only[zO,is2,Option.any_some,zaB]
   generalize szF x u=p at this⊢
   obtain⟨p1,p2⟩:=p
   cases p2
   ·simp
   ·have h1:=this rfl
    simp only at h1
    have h2:¬(0=p1):=fun h=>h1 h.symm
    simp only[if_true,h1,h2,if_false,decide_false,za7,zax]
    cases e.ty.res.cell
    ·simp
    ·by_cases q:e.ty.res.n=p1
     ·simp[q]
     ·have:¬p1=e.ty.res.n:=fun h=>q h.symm
      simp[q,this]
 |op n m u w=>
  obtain⟨a,b,rfl⟩:=Z2 (hZ (by simp[Tm.k]) (by simp[Tm.k]))
  have ha:a=zO (szF x u):=hz (by simp[Tm.k]) (by simp[Tm.k]) 0 u a rfl rfl g
  have hb:b=zO (szF x w):=hz (by simp[Tm.k]) (by simp[Tm.k]) 1 w b rfl rfl g
  rw[qeE]
  have h1:=qc7 g u
  have h2:=qc7 g w
  simp only[tlR,Tm.k,Tm.n,Tm.m,zaE,zaH,or_false,zas,zaK,zaB,zaj,ne_eq,not_false_eq_true,true_and,if_false,if_true]
  subst ha hb
  simp only[zO,is2]
  generalize szF x u=p at h1⊢
  generalize szF x w=q at h2⊢
  obtain⟨p1,p2⟩:=p
  obtain⟨q1,q2⟩:=q
  cases p2
  ·by_cases g1:n=1\/n=2\/n=3<;>by_cases g2:n=4\/n=5<;>simp[g1,g2]
  ·cases q2
   ·by_cases g1:n=1\/n=2\/n=3<;>by_cases g2:n=4\/n=5<;>simp[g1,g2]
   ·have e1:=h1 rfl
    have e2:=h2 rfl
    simp only at e1 e2
    have e3:¬(0=p1):=fun h=>e1 h.symm
    have e4:¬(0=q1):=fun h=>e2 h.symm
    simp only[if_true,e3,e4,or_self,if_false,zax]
    by_cases g1:n=1\/n=2\/n=3
    ·have q1':¬n<1:=by omega
     have q2':¬5<n:=by omega
     have q3':¬4<=n:=by omega
     simp only[g1,q1',q2',q3',if_true,if_false,false_or]
     cases qbe m<;>by_cases r1:p1=m<;>by_cases r2:q1=m<;>simp[r1,r2]
    ·by_cases g2:n=4∨n=5
     ·have q1':¬n<1:=by omega
      have q2':¬5<n:=by omega
      have q3':4<=n:=by omega
      simp only[g1,g2,q1',q2',q3',if_true,if_false,false_or]
      cases qbe m<;>by_cases r1:p1=m<;>by_cases r2:q1=m<;>simp[r1,r2]
     ·have q1':n<1∨5<n:=by omega
      simp only[g1,g2,if_false,zai]
      rcases q1' with q|q<;>simp[q]
 |az n u=>
  obtain⟨a,rfl⟩:=Z1 (hZ (by simp[Tm.k]) (by simp[Tm.k]))
  have ha:a=zO (szF x u):=hz (by simp[Tm.k]) (by simp[Tm.k]) 0 u a rfl rfl g
  rw[qeF]
  have h1:=qc7 g u
  simp only[tlR,flR,Tm.k,Tm.n,Tm.m,zaV,zaj,ne_eq,not_false_eq_true,true_and,if_false,if_true]
  subst ha
  simp only[zO]
  generalize szF x u=p at h1⊢
  obtain⟨p1,p2⟩:=p
  cases p2
  ·simp
  ·have e1:=h1 rfl
   simp only at e1
   have e3:¬(0=p1):=fun h=>e1 h.symm
   simp[e3]
   rfl
 |seq u w=>
  obtain⟨a,b,rfl⟩:=Z2 (hZ (by simp[Tm.k]) (by simp[Tm.k]))
  have ha:a=zO (szF x u):=hz (by simp[Tm.k]) (by simp[Tm.k]) 0 u a rfl rfl g
  have hb:b=zO (szF x w):=hz (by simp[Tm.k]) (by simp[Tm.k]) 1 w b rfl rfl g
  rw[qbY]
  have h1:=qc7 g u
  have h2:=qc7 g w
  simp only[tlR,flR,Tm.k,Tm.n,Tm.m,zaE,zaH,or_false,zas,zaK,zaB,zaj,ne_eq,not_false_eq_true,true_and,if_false,if_true]
  subst ha hb
  simp only[zO,is2]
  generalize szF x u=p at h1⊢
  generalize szF x w=q at h2⊢
  obtain⟨p1,p2⟩:=p
  obtain⟨q1,q2⟩:=q
  cases p2<;>cases q2<;>simp
  have e1:=h1 rfl
  have e2:=h2 rfl
  simp only at e1 e2
  omega
 |ite c u w=>
  obtain⟨a,b,d,rfl⟩:=Z3 (hZ (by simp[Tm.k]) (by simp[Tm.k]))
  have ha:a=zO (szF x c):=hz (by simp[Tm.k]) (by simp[Tm.k]) 0 c a rfl rfl g
  have hb:b=zO (szF x u):=hz (by simp[Tm.k]) (by simp[Tm.k]) 1 u b rfl rfl g
  have hd:d=zO (szF x w):=hz (by simp[Tm.k]) (by simp[Tm.k]) 2 w d rfl rfl g
  rw[qcv]
  have h1:=qc7 g c
  have h2:=qc7 g u
  have h3:=qc7 g w
  simp only[tlR,flR,Tm.k,Tm.n,Tm.m,zaE,zaH,or_false,zas,zaK,zaB,zaj,ne_eq,not_false_eq_true,true_and,if_false,if_true]
  subst ha hb hd
  simp only[zO,is2]
  generalize szF x c=p at h1⊢
  generalize szF x u=q at h2⊢
  generalize szF x w=r at h3⊢
  obtain⟨p1,p2⟩:=p
  obtain⟨q1,q2⟩:=q
  obtain⟨r1,r2⟩:=r
  cases p2<;>cases q2<;>cases r2<;>simp
  have e1:=h1 rfl
  have e2:=h2 rfl
  have e3:=h3 rfl
  simp only at e1 e2 e3
  have n1:¬(0=p1):=fun h=>e1 h.symm
  have n2:¬(0=q1):=fun h=>e2 h.symm
  have n3:¬(0=r1):=fun h=>e3 h.symm
  simp only[n1,n2,n3,or_self,if_false,eq_comm]
 |whl u w=>
  obtain⟨a,b,rfl⟩:=Z2 (hZ (by simp[Tm.k]) (by simp[Tm.k]))
  have ha:a=zO (szF x u):=hz (by simp[Tm.k]) (by simp[Tm.k]) 0 u a rfl rfl g
  have hb:b=zO (szF x w):=hz (by simp[Tm.k]) (by simp[Tm.k]) 1 w b rfl rfl g
  rw[qfs]
  have h1:=qc7 g u
  have h2:=qc7 g w
  simp only[tlR,flR,Tm.k,Tm.n,Tm.m,zaE,zaH,or_false,zas,zaK,zaB,zaj,ne_eq,not_false_eq_true,true_and,if_false,if_true]
  subst ha hb
  simp only[zO,is2]
  generalize szF x u=p at h1⊢
  generalize szF x w=q at h2⊢
  obtain⟨p1,p2⟩:=p
  obtain⟨q1,q2⟩:=q
  cases p2<;>cases q2<;>simp
  have e1:=h1 rfl
  have e2:=h2 rfl
  simp only at e1 e2
  omega
 |new n m u=>
  obtain⟨a,rfl⟩:=Z1 (hZ (by simp[Tm.k]) (by simp[Tm.k]))
  rw[qeJ]
  simp only[tlR,flR,Tm.k,Tm.n,Tm.m,zaV,zas,zaB,zaj,ne_eq,not_false_eq_true,true_and,if_false,if_true]
  by_cases hn:qbe n=true
  ·have g':=g.cellW (isSize_iff.1 hn)
   have ha:a=zO (szF (x.with ⟨⟨[],⟨true,n⟩⟩,false⟩) u):=hz (by simp[Tm.k]) (by simp[Tm.k]) 0 u a rfl rfl g'
   subst ha
   simp only[zO,hn,zax]
   generalize szF (x.with ⟨⟨[],⟨true,n⟩⟩,false⟩) u=p
   obtain⟨p1,p2⟩:=p
   cases p2<;>simp
   intro h
   simp[<-h]
  ·simp only[zaR] at hn
   simp[zO,hn]
 |lbl u w=>
  obtain⟨a,b,rfl⟩:=Z2 (hZ (by simp[Tm.k]) (by simp[Tm.k]))
  have ha:a=zO (szF {x with size:=x.size+1} u):=hz (by simp[Tm.k]) (by simp[Tm.k]) 0 u a rfl rfl (g.lab _)
  have hb:b=zO (szF x w):=hz (by simp[Tm.k]) (by simp[Tm.k]) 1 w b rfl rfl g
  rw[qem]
  have h1:=qc7 (g.lab (x.size+1)) u
  have h2:=qc7 g w
  simp only[tlR,flR,Tm.k,Tm.n,Tm.m,zaE,zaH,or_false,zas,zaK,zaB,zaj,ne_eq,not_false_eq_true,true_and,if_false,if_true]
  subst ha hb
  simp only[zO,is2]
  generalize szF {x with size:=x.size+1} u=p at h1⊢
  generalize szF x w=q at h2⊢
  obtain⟨p1,p2⟩:=p
  obtain⟨q1,q2⟩:=q
  cases p2<;>cases q2<;>simp
  have e1:=h1 rfl
  have e2:=h2 rfl
  simp only at e1 e2
  have n1:¬(0=p1):=fun h=>e1 h.symm
  have n2:¬(0=q1):=fun h=>e2 h.symm
  simp only[n1,n2,or_self,if_false,eq_comm]
 |jmp n=>
  rw[Z0 (hZ (by simp[Tm.k]) (by simp[Tm.k])),qit]
  simp only[tlR,flR,Tm.k,Tm.n,Tm.m,zO,zaH,and_false,if_false,if_true,zaj,or_self]
  rfl
 |cho u w=>
  obtain⟨a,b,rfl⟩:=Z2 (hZ (by simp[Tm.k]) (by simp[Tm.k]))
  have ha:a=zO (szF x u):=hz (by simp[Tm.k]) (by simp[Tm.k]) 0 u a rfl rfl g
  have hb:b=zO (szF x w):=hz (by simp[Tm.k]) (by simp[Tm.k]) 1 w b rfl rfl g
  rw[qen]
  have h1:=qc7 g u
  have h2:=qc7 g w
  simp only[tlR,flR,Tm.k,Tm.n,Tm.m,zaE,zaH,or_false,or_true,zas,zaK,zaB,zaj,ne_eq,not_false_eq_true,true_and,if_false,if_true]
  subst ha hb
  simp only[zO,is2]
  generalize szF x u=p at h1⊢
  generalize szF x w=q at h2⊢
  obtain⟨p1,p2⟩:=p
  obtain⟨q1,q2⟩:=q
  cases p2<;>cases q2<;>simp
  have e1:=h1 rfl
  have e2:=h2 rfl
  simp only at e1 e2
  have n1:¬(0=p1):=fun h=>e1 h.symm
  have n2:¬(0=q1):=fun h=>e2 h.symm
  simp only[n1,n2,or_self,if_false,eq_comm]
 |hang=>
  rw[Z0 (hZ (by simp[Tm.k]) (by simp[Tm.k])),qhl]
  simp only[tlR,flR,Tm.k,Tm.n,Tm.m,zO,zaH,and_false,if_false,if_true,zaj,or_self]
 |val i=>
  rw[Z0 (hZ (by simp[Tm.k]) (by simp[Tm.k])),qhk]
  simp only[tlR,Tm.k,Tm.i,zO,qhw,zaH,and_false,if_false,if_true,zaj]
  cases x.get i with
  |none=>rfl
  |some e=>cases h:e.arg<;>simp[h]
 |cel i=>
  rw[Z0 (hZ (by simp[Tm.k]) (by simp[Tm.k])),qeK]
  simp only[tlR,flR,Tm.k,Tm.n,Tm.m,zO,zaH,and_false,if_false,zaj,or_self,zai]
 |obj u w=>
  rw[h17 (.inr rfl),qdM]
  simp only[tlR,flR,Tm.k,Tm.n,Tm.m,zO,zaH,and_false,if_false,zaj,or_self,zai]
 |ntc n i u=>
  obtain⟨a,rfl⟩:=Z1 (hZ (by simp[Tm.k]) (by simp[Tm.k]))
  have ha:a=zO (szF x u):=hz (by simp[Tm.k]) (by simp[Tm.k]) 0 u a rfl rfl g
  rw[qeo]
  have h1:=qc7 g u
  simp only[tlR,Tm.k,Tm.i,Tm.n,qjw g,qhw,zaV,zas,zaB,zaj,ne_eq,not_false_eq_true,true_and,if_false,if_true,decide_true,zbk,za8]
  cases he:x.get i with
  |none=>simp[zO]
  |some e=>
   obtain⟨j,_,hj⟩:=Sc.get_inv he
   have hc:=g.cell e (zaN hj)
   subst ha
   simp only[zO,Option.any_some,zaB,zab]
   generalize szF x u=p at h1⊢
   obtain⟨p1,p2⟩:=p
   cases p2
   ·simp
   ·have e1:=h1 rfl
    simp only at e1
    have n1:¬(0=p1):=fun h=>e1 h.symm
    by_cases hcc:e.ty.res.cell=true
    ·have:=(hc hcc).2
     simp[n1,hcc,this]
    ·simp[hcc]
end Go.AI.Tryz
namespace Go.AI.Tryz
theorem qp8 {x:Sc}(g:ScG x){t:Tm}{b:Bs}(hb:1<=b.n/\b.n<=64){zt z0 z1:Int}(ht:b.cell=false->zt=zO (szF x t))(h0:b.cell=true->∀u,t.ks[0]? =some u->z0=zO (szF x u))
  (h1:b.cell=true->∀u,t.ks[1]? =some u->z1=zO (szF (x.with ⟨⟨[],⟨false,b.n⟩⟩,true⟩) u)):agR x.sn t b zt z0 z1=qds szF x t b:=by
 unfold agR qds
 cases hc:b.cell
 ·simp only[if_true,zai,if_false,ht hc,zO]
  by_cases h16:t.k=16\/t.k=17
  ·have:(szF x t).2=false:=by
    cases h:(szF x t).2
    ·rfl
    ·have hsh:=qda h
     cases hsh<;>simp[Tm.k] at h16
     ·rw[qeK] at h;cases h
     ·rw[qdM] at h;cases h
   rw[this]
   rcases h16 with h|h<;>simp[h]
  ·have h1:t.k≠16:=fun h=>h16 (.inl h)
   have h2:t.k≠17:=fun h=>h16 (.inr h)
   simp only[h1,h2,decide_false,zal,zax]
   cases h:(szF x t).2
   ·have:¬(0:Int)=b.n:=by omega
    simp[this]
   ·simp
 ·simp only[if_true,Bool.true_eq_false,if_false]
  by_cases h16:t.k=16
  ·have hform:qbq t=(fR t&&decide (Int.ofNat t.ks.length=0)):=by
    simp only[qbq,formL,qcq,fR,h16,zaj,if_true,if_false,or_self,or_true]
    have e:((0:Int)=t.ks.length)=(t.ks=[]):=by rw[<-zaX,eq_iff_iff];omega
    simp[e]
   rw[hform]
   simp only[h16,if_true,qjw g]
   have hn:¬b.n=0:=by omega
   cases fR t<;>simp[hn]
   cases x.get t.i<;>simp
  ·by_cases h17:t.k=17
   ·have hform:qbq t=(fR t&&decide (t.ks.length=2)):=by
     simp only[qbq,formL,qcq,fR,h17,zaj,if_true,if_false,or_self]
     have e:((2:Int)=t.ks.length)=(t.ks.length=2):=by rw[eq_iff_iff];omega
     simp[e,Bool.and_assoc]
    rw[hform]
    simp only[h17,if_true,true_and]
    cases hf:fR t
    ·simp
    ·by_cases h2:t.ks.length=2
     ·obtain⟨u,w,hks⟩:=qtd h2.symm
      have e0:=h0 hc u (by rw[hks];rfl)
      have e1:=h1 hc w (by rw[hks];rfl)
      simp only[hks,e0,e1,zO]
      have n0:¬(0:Int)=b.n:=by omega
      cases(szF x u).2<;>cases(szF (x.with ⟨⟨[],⟨false,b.n⟩⟩,true⟩) w).2<;>simp[n0]
     ·simp[h2]
   ·simp only[h16,h17,if_false,false_and,zaS]
    exact ite_self _
theorem qm6 {x:Sc}{t:Tm}{j:Nat}(ht:x.top<=Int.ofNat x.ids.length)(h17:t.k≠17):(x.kid t j).sn=kl x.sn t/\(x.kid t j).size=qm5 x.size t j:=by
 unfold Sc.kid kl qm5
 by_cases h:t.k=10
 ·have h11:¬t.k=11:=by omega
  simp only[h,if_true,zaj,false_and,if_false,qjv x _ ht]
  exact⟨rfl,rfl⟩
 ·simp only[h,h17,if_false,false_and]
  split
  ·exact⟨rfl,rfl⟩
  ·exact⟨rfl,rfl⟩
theorem qp9 {x:Sc}{t:Tm}{j:Nat}(ht:x.top<=Int.ofNat x.ids.length):(x.kid t j).top<=Int.ofNat (x.kid t j).ids.length:=by
 unfold Sc.kid
 split
 ·simp only[Sc.with,zay,zar,zaC,zaf] at ht⊢;omega
 ·split
  ·simp only[Sc.with,zay,zar,zaC,zaf] at ht⊢;omega
  ·split
   ·exact ht
   ·exact ht
theorem ex7:∀(d:Nat) (t:Tm) (x:Sc),t.size<=d->x.B t.size->x.top<=Int.ofNat x.ids.length->
  (∃z,PC CP 116 [t.v,sw x.sn,i64 x.size] (i64 z)/\(ScG x->z=zO (szF x t)))/\(∀b:Bs,∃r,PC CP 68 [t.v,b.v,sw x.sn,i64 x.size] (bl r)/\(ScG x->1<=b.n/\b.n<=64->r=qds szF x t b))
 |0,t,x,hd,_,_=>by have:=t.size_pos;omega
 |d+1,t,x,hd,hB,htop=>by
  have hB':=hB
  obtain⟨b1,b2,b3⟩:=hB'
  have hlt:∀u∈t.ks,u.size<t.size:=fun u hu=>qa3 hu
  have hkl:t.ks.length<=1000000:=by
   have:=Tm.len_le_size t.ks
   have:=Tm.size_ks t
   omega
  have hsn:x.sn.length<=999999:=by rw[qp7];have:=t.size_pos;omega
  have hA:∃z,PC CP 116 [t.v,sw x.sn,i64 x.size] (i64 z)/\(ScG x->z=zO (szF x t)):=by
   have hkid:∀j,∀hj:j<t.ks.length,t.k≠17->∃z,PC CP 116 [t.ks[j].v,sw (kl x.sn t),i64 (qm5 x.size t j)] (i64 z)/\(ScG (x.kid t j)->z=zO (szF (x.kid t j) t.ks[j])):=fun j hj h17=>by
    have hm:=za5 hj
    obtain⟨z,h1,h2⟩:=(ex7 d t.ks[j] (x.kid t j) (by have:=hlt _ hm;omega) (qvs hB (zah hj)) (qp9 htop)).1
    rw[(qm6 htop h17).1,(qm6 htop h17).2] at h1
    exact⟨z,h1,h2⟩
   have harg:∀u,u∈t.ks->∀p:Bs,∃r,PC CP 68 [u.v,p.v,sw x.sn,i64 x.size] (bl r)/\(ScG x->1<=p.n/\p.n<=64->r=qds szF x u p):=fun u hu p=>
    (ex7 d u x (by have:=hlt u hu;omega) (qmM hB (hlt u hu)) htop).2 p
   let zf:Nat->Int:=fun j=>if h:∃hj:j<t.ks.length,t.k≠17 then Classical.choose (hkid j h.1 h.2) else 0
   let f:Tm->Bs->Bool:=fun u p=>if h:u∈t.ks then Classical.choose (harg u h p) else false
   let Z:List Int:=if t.k=2\/t.k=17 then[] else(List.range t.ks.length).map zf
   have hzf:∀j,∀hj:j<t.ks.length,∀h17:t.k≠17,PC CP 116 [t.ks[j].v,sw (kl x.sn t),i64 (qm5 x.size t j)] (i64 (zf j))/\(ScG (x.kid t j)->zf j=zO (szF (x.kid t j) t.ks[j])):=fun j hj h17=>by
    simp only[zf,dif_pos (show∃hj:j<t.ks.length,t.k≠17 from⟨hj,h17⟩)]
    exact Classical.choose_spec (hkid j hj h17)
   have hff:∀u,u∈t.ks->∀p:Bs,PC CP 68 [u.v,p.v,sw x.sn,i64 x.size] (bl (f u p))/\(ScG x->1<=p.n/\p.n<=64->f u p=qds szF x u p):=fun u hu p=>by
    simp only[f,dif_pos hu]
    exact Classical.choose_spec (harg u hu p)
   have hZl:t.k≠2->t.k≠17->Z=(List.range t.ks.length).map zf:=fun h2 h17=>if_neg (fun h=>h.elim h2 h17)
   have hZlen:t.k≠2->t.k≠17->Z.length=t.ks.length:=fun h2 h17=>by rw[hZl h2 h17,za1,List.length_range]
   have hZ17:t.k=2\/t.k=17->Z=[]:=fun h=>if_pos h
   have hZj:t.k≠2->t.k≠17->∀j u z,t.ks[j]? =some u->Z[j]? =some z->∃hj:j<t.ks.length,u=t.ks[j]/\z=zf j:=fun h2 h17 j u z hu hz=>by
    obtain⟨hj,rfl⟩:=zao.1 hu
    rw[hZl h2 h17,zbb,List.getElem?_range hj,zab,zac] at hz
    exact⟨hj,rfl,hz.symm⟩
   refine⟨_,qtQ x.sn hsn t hkl x.size b2 (by omega) Z f hZlen (fun h2 h17 j _ u z hu hz=>?_) (fun u hu p _=>(hff u hu p).1) hZ17,fun g=>?_⟩
   ·obtain⟨hj,rfl,rfl⟩:=hZj h2 h17 j u z hu hz
    exact(hzf j hj h17).1
   ·cases hok:qbq t with
    |false=>
     rw[qtR hok]
     have:szF x t=(0,false):=by rw[qcu];unfold qbl;simp[hok]
     rw[this];rfl
    |true=>
     refine qtS g (qlL hok) hZlen hZ17 (fun h2 h17 j u z hu hz gk=>?_) (fun _ u hu p h1 h2=>(hff u hu p).2 g ⟨h1,h2⟩)
     obtain⟨hj,rfl,rfl⟩:=hZj h2 h17 j u z hu hz
     exact(hzf j hj h17).2 gk
  refine⟨hA,fun b=>?_⟩
  obtain⟨zt,p1,e1⟩:=hA
  have hk0:∃z0,b.cell=true/\t.k=17->∀u∈t.ks[0]?.toList,PC CP 116 [u.v,sw x.sn,i64 x.size] (i64 z0)/\(ScG x->z0=zO (szF x u)):=by
   cases h:t.ks[0]? with
   |none=>exact⟨0,fun _ u hu=>by cases hu⟩
   |some u=>
    have hu:=zaN h
    obtain⟨z,h1,h2⟩:=(ex7 d u x (by have:=hlt u hu;omega) (qmM hB (hlt u hu)) htop).1
    exact⟨z,fun _ v hv=>by simp only[Option.toList_some,zaV] at hv;subst hv;exact⟨h1,h2⟩⟩
  have hk1:∃z1,b.cell=true/\t.k=17->∀u∈t.ks[1]?.toList,PC CP 116 [u.v,sw (x.sn++[Sn.val b.n]),i64 x.size] (i64 z1)/\(ScG (x.with ⟨⟨[],⟨false,b.n⟩⟩,true⟩)->z1=zO (szF (x.with ⟨⟨[],⟨false,b.n⟩⟩,true⟩) u)):=by
   cases h:t.ks[1]? with
   |none=>exact⟨0,fun _ u hu=>by cases hu⟩
   |some u=>
    have hu:=zaN h
    obtain⟨z,h1,h2⟩:=(ex7 d u (x.with ⟨⟨[],⟨false,b.n⟩⟩,true⟩) (by have:=hlt u hu;omega) (qhe hB (hlt u hu)) (by simp only[Sc.with,zay,zar,zaC,zaf] at htop⊢;omega)).1
    rw[qjv x _ htop] at h1
    exact⟨z,fun _ v hv=>by simp only[Option.toList_some,zaV] at hv;subst hv;exact⟨h1,h2⟩⟩
  obtain⟨z0,h0⟩:=hk0
  obtain⟨z1,h1⟩:=hk1
  refine⟨_,qvL x.sn hsn t b x.size zt z0 z1 (fun _=>p1) (fun c u hu=>(h0 c u hu).1) (fun c u hu=>(h1 c u hu).1),fun g hb=>?_⟩
  by_cases h17:t.k=17
  ·exact qp8 g hb (fun _=>e1 g) (fun c u hu=>(h0 ⟨c,h17⟩ u (by rw[hu];exact zaV.2 rfl)).2 g) (fun c u hu=>(h1 ⟨c,h17⟩ u (by rw[hu];exact zaV.2 rfl)).2 (g.valW hb))
  ·have:∀a0 a1 c0 c1,agR x.sn t b zt a0 a1=agR x.sn t b zt c0 c1:=fun _ _ _ _=>by unfold agR;simp only[h17,false_and,if_false]
   rw[this z0 z1 (zO (szF x (t.ks[0]?.getD .z))) (zO (szF (x.with ⟨⟨[],⟨false,b.n⟩⟩,true⟩) (t.ks[1]?.getD .z)))]
   exact qp8 g hb (fun _=>e1 g) (fun _ u hu=>by rw[hu];rfl) (fun _ u hu=>by rw[hu];rfl)
end Go.AI.Tryz
namespace Go.AI.Tryz
theorem LkK.mk' {sx sy:Nat->Sc}:∀(ks:List Tm) (j:Nat),(∀i w,ks[i]? =some w->Lk (sx (j+i)) w (sy (j+i)) w)->LkK sx sy j ks ks
 |[],_,_=>trivial
 |u::r,j,h=>⟨h 0 u rfl,LkK.mk' r (j+1) fun i w hw=>by
   have:=h (i+1) w (by simpa using hw)
   rw[show j+1+i=j+(i+1) by omega]
   exact this⟩
theorem qqa:∀(d:Nat) (t:Tm) (x:Sc) (m:Int),t.size<=d->Nd x t->x.size<=m->Lk x t {x with size:=m} t
 |0,t,_,_,h,_,_=>by have:=t.size_pos;omega
 |d+1,t,x,m,hd,h,hm=>by
  have hlt:∀u∈t.ks,u.size<t.size:=fun u hu=>qa3 hu
  have hkid:∀i w,t.ks[i]? =some w->Lk (x.kid t i) w (Sc.kid {x with size:=m} t i) w:=fun i w hw=>by
   have hwm:=zaN hw
   have hn:=h.kid hw
   have ih:=fun m' hm'=>qqa d w (x.kid t i) m' (by have:=hlt w hwm;omega) hn hm'
   have e:∃m',Sc.kid {x with size:=m} t i={x.kid t i with size:=m'}/\(x.kid t i).size<=m':=by
    unfold Sc.kid
    split
    ·exact⟨m,rfl,hm⟩
    ·split
     ·rename_i h17
      refine⟨m,?_,hm⟩
      have:(szF {x with size:=m} (t.ks.headD .z)).1=(szF x (t.ks.headD .z)).1:=by
       cases hks:t.ks with
       |nil=>rw[hks] at hw;cases hw
       |cons u r=>
        have h0:t.ks[0]? =some u:=by rw[hks];rfl
        have hn0:=h.kid h0
        rw[qe3 h17.1] at hn0
        have:=qqa d u x m (by have:=hlt u (by rw[hks];exact zav ..);omega) hn0 hm
        simp only[zbh,this.1]
      rw[this]
      rfl
     ·split
      ·exact⟨m+1,rfl,by show x.size+1<=_;omega⟩
      ·exact⟨m,rfl,hm⟩
   obtain⟨m',e1,e2⟩:=e
   rw[e1]
   exact ih m' e2
  refine Lk.node h.sh h.sh rfl rfl (fun _=>rfl) (fun hk=>?_) rfl (fun _=>rfl) (LkK.mk' t.ks 0 fun i w hw=>by rw[zaF];exact hkid i w hw)
  have hsz:=h.gd.sz (by omega) (by omega)
  cases h.sh with
  |jmp n=>
   rw[qit] at hsz
   have:=isBelow_iff.1 hsz
   show qbi n x.size=qbi n m
   refine(show qbi n x.size=true from hsz).trans ?_
   exact(isBelow_iff.2 ⟨this.1,by omega⟩).symm
  |_=>simp only[Tm.k_mk] at hk;omega
abbrev pv (x:Sc):zA:=.agg [sw x.sn,i64 x.top]
theorem pvc (a b:zA):zA.cells (some 2) (.agg [a,b])=some [a,b]:=rfl
theorem qtT (x:Sc)(u:Tm)(hs:x.size<=600)(hn:Nd x u)(g:ScG x)(ht:x.top<=Int.ofNat x.ids.length)(hk:u.k≠16/\u.k≠17)(hl:x.ids.length+u.size<=900000):PC CP 123 [pv x,u.v] (i64 (szF x u).1):=by
 obtain⟨z,h1,h2⟩:=(ex7 u.size u {x with size:=600} (zan _) ⟨by show x.ids.length+_<=_;omega,by show(0:Int)<=600;omega,by show(600:Int)+_<=_;omega⟩ ht).1
 have hz:=h2 (g.lab 600)
 have hb:=(qqa u.size u x 600 (zan _) hn hs).1
 rw[<-hb] at hz
 have:z=(szF x u).1:=by rw[hz,zO,hn.gd.sz hk.1 hk.2,if_pos rfl]
 subst this
 have h1:PC CP 116 [u.v,sw x.sn,i64 600] (i64 (szF x u).1):=h1
 refine PC.of2 (cf:=cf123) (np:=2) (args':=[pv x,u.v]) (by kernel_rfl) (by kernel_rfl) rfl (by simp only[zap,qal];rfl) (by simp only[zam,qai];rfl) (fun _=>rfl) (h1.mono fun N h E s=>⟨i64 (szF x u).1,s,(s123_eq _ _ _ _ _).trans ?_,rfl⟩)
 unfold s123
 simp only[pvc,bs0,h,qah,qaS,zaa,qab]
theorem qiB (a:Ar):(qaE a).sn=a.ids.map fun t=>⟨t,false,false⟩:=by
 unfold Sc.sn qaE
 refine List.ext_getElem (by simp) fun j h1 h2=>?_
 simp only[List.length_mapIdx,za1] at h1
 simp only[List.getElem_mapIdx,List.getElem_map,zal,za8]
 have:¬(Int.ofNat a.ids.length<=Int.ofNat j):=by simp only[zaf];omega
 rw[decide_eq_false this]
theorem qk0 {a:Ar}(h:qbS a=0):ScG (qaE a)/\1<=a.root.n/\a.root.n<=64:=by
 unfold qbS at h
 split at h
 ·omega
 ·split at h
  ·omega
  ·rename_i h2
   simp only[zaR,zaU] at h2
   have hT:∀ty∈a.ids,qco ty=true:=fun ty hty=>by
    have:=List.any_eq_false.1 h2.2 ty hty
    simpa using this
   have hr:qbh a.root=true:=by simpa using h2.1
   simp only[qbh,zag,decide_eq_true_eq] at hr
   refine⟨⟨fun e he=>?_,fun e he=>?_,fun e he=>?_⟩,hr⟩<;>(simp only[qaE,List.mem_map] at he;obtain⟨ty,hty,rfl⟩:=he;have:=hT ty hty;simp only[qco,zag] at this)
   ·have:=this.1
    simp only[qbh,zag,decide_eq_true_eq] at this
    exact this
   ·intro hc
    have h3:=this.2.2
    rw[hc] at h3
    simp only[zak,Bool.or_false,List.isEmpty_iff] at h3
    exact⟨h3,rfl⟩
   ·intro p hp
    have:=zaJ.1 this.2.1 p hp
    simp only[qbh,zag,decide_eq_true_eq] at this
    exact this
theorem qjx (a:Ar)(t:Tm)(oa:a.Ok)(ok:t.Ok)(h1:a.ids.length<=100000)(hs:t.size<=100000):PC CP 46 [a.v,t.v] (i64 (qbW a t)):=by
 obtain⟨r,hr,hr2⟩:=(ex7 t.size t (qaE a) (zan _) ⟨by simp only[qaE,za1];omega,by simp only[qaE];omega,by simp only[qaE];omega⟩ (by simp only[qaE,za1];exact Int.le_refl _)).2 a.root
 rw[qiB] at hr
 have hr:PC CP 68 [t.v,a.root.v,sw (a.ids.map fun t=>⟨t,false,false⟩),i64 0] (bl r):=hr
 refine PC.of2 (cf:=cf46) (np:=2) (args':=[a.v,t.v]) (by kernel_rfl) (by kernel_rfl) rfl (by simp only[zap,qal];rfl) (by simp only[zam,qai];rfl) (fun _=>rfl)
  (((qjh a oa).and ((qo7 t ok).and ((qm4 a (by omega)).and hr))).mono fun N ⟨c62,c32,c69,c68⟩ E s=>⟨i64 (qbW a t),s,(s46_eq _ _ _ _ _).trans ?_,rfl⟩)
 have hroot:ldL [.p (.sl a.ids.length (qaQ Ty.cells a.ids)),bl a.root.cell,i64 a.root.n,bl a.jumps] 1 (some 2)=some a.root.v:=rfl
 unfold s46 qbW
 by_cases h0:qbS a=0
 ·have hG:=qk0 h0
  have hr3:=hr2 hG.1 hG.2
  by_cases h6:600<t.size
  ·have:(600:Int)<Int.ofNat (min 601 t.size):=by simp only[zaf];omega
   simp -implicitDefEqProofs only[qc1,qhZ,c62,c32,h0,h6,this,ne_eq,not_true_eq_false,if_true,if_false,qah,qaS,qad,qa6,qaC,decide_true,zak,qaa,cond_true,cond_false,zab,zaa,qab]
  ·have:¬(600:Int)<Int.ofNat (min 601 t.size):=by simp only[zaf];omega
   rw[<-hr3]
   simp -implicitDefEqProofs only[qc1,qhZ,hroot,c62,c32,c69,c68,h0,h6,this,ne_eq,not_true_eq_false,if_false,qah,qaS,qad,qa6,qaC,decide_true,decide_false,zak,qaa,cond_false,zab,zaa,qab,qam]
   cases r<;>rfl
 ·simp -implicitDefEqProofs only[qc1,qhZ,c62,h0,ne_eq,not_false_eq_true,if_true,qah,qaS,qad,qa6,decide_false,zal,qaa,cond_true,zab,zaa,qab]
end Go.AI.Tryz
namespace Go.AI.Tryz
theorem qvM (t:Tm)(l:List Tm):over t.c 4 [kv l]=some (t.with l).c:=by cases t;rfl
theorem qbU (t:Tm):PC CP 175 [t.v] (bl (qaI t)):=by
 refine PC.of2 (cf:=cf175) (np:=1) (args':=[t.v]) (by kernel_rfl) (by kernel_rfl) rfl (by first|rfl|(simp only[zap,qal];rfl)) (by first|rfl|(simp only[zam,qai];rfl)) (fun lo=>by first|rfl|exact qaM lo _|exact qaR lo _|exact qce lo _ _) (Ev.mono (ev0) fun N _ E s=>⟨bl (qaI t),s,(s175_eq _ _ _ _).trans ?_,(by first|rfl|exact qai _|exact qaN _|exact qb1 _ _)⟩)
 unfold s175 qaI
 simp only[qah,qba,qad,qaf,zab,zaa]
theorem qk1 (a b:Int):PC CP 176 [i64 a,i64 b] ((Tm.num a b).v):=by
 refine PC.of2 (cf:=cf176) (np:=2) (args':=[i64 a,i64 b]) (by kernel_rfl) (by kernel_rfl) rfl (by first|rfl|(simp only[zap,qal,qb6];rfl)) (by first|rfl|(simp only[zam,qai,qb7];rfl)) (fun lo=>by first|rfl|exact qaM lo _|exact qaR lo _|exact qce lo _ _) (Ev.mono (ev0) fun N _ E s=>⟨.agg [u8 1,i64 a,i64 b,i64 0,.sl 0 [] .full],s,(s176_eq _ _ _ _ _).trans ?_,(by first|rfl|exact qai _|exact qaN _|exact qb1 _ _)⟩)
 have h:bd [u8 0,i64 0,i64 0,i64 0,.sl 0 [] .full] [(0,none,.c (u8 1)),(1,none,.c (i64 a)),(2,none,.c (i64 b))]=some (.agg [u8 1,i64 a,i64 b,i64 0,.sl 0 [] .full]):=rfl
 unfold s176
 simp only[h,z5c,z5o,z5l,zaa]
theorem qeA (t:Tm)(n0 m0:Int):PC CP 199 [t.v,i64 n0,i64 m0] (bl (qbH t n0 m0)):=by
 refine PC.of2 (cf:=cf199) (np:=3) (args':=[t.v,i64 n0,i64 m0]) (by kernel_rfl) (by kernel_rfl) rfl (by first|rfl|(simp only[zap,qal];rfl)) (by first|rfl|(simp only[zam,qai];rfl)) (fun lo=>by first|rfl|exact qaM lo _|exact qaR lo _|exact qce lo _ _) (Ev.mono (qbU t) fun N h E s=>⟨bl (qbH t n0 m0),s,(s199_eq _ _ _ _ _ _).trans ?_,(by first|rfl|exact qai _|exact qaN _|exact qb1 _ _)⟩)
 unfold s199 s199_0 qbH
 simp only[h,qah,qaS,qbX,qd6,qad,qaf,qaa,qaj,zab,zaa,qab]
 cases qaI t<;>cases decide (t.n=n0)<;>rfl
theorem qeB (t:Tm)(l:List Tm):PC CP 200 [t.v,kv l] ((t.with l).v):=by
 refine PC.of2 (cf:=cf200) (np:=2) (args':=[t.v,kv l]) (by kernel_rfl) (by kernel_rfl) rfl (by first|rfl|(simp only[zap,qal];rfl)) (by first|rfl|(simp only[zam,qai];rfl)) (fun lo=>by first|rfl|exact qaM lo _|exact qaR lo _|exact qce lo _ _) (Ev.mono (ev0) fun N _ E s=>⟨(t.with l).v,s,(s200_eq _ _ _ _ _).trans ?_,(by first|rfl|exact qai _|exact qaN _|exact qb1 _ _)⟩)
 have hc:zA.cells none (kv l)=some [kv l]:=rfl
 unfold s200
 simp only[hc,qvM,qah,qaS,qau,zaa]
theorem qqb (b:Bool):PC CP 207 [bl b] (i64 (cond b 1 0)):=by
 refine PC.of2 (cf:=cf207) (np:=1) (args':=[bl b]) (by kernel_rfl) (by kernel_rfl) rfl (by first|rfl|(simp only[zap,qal,qb6];rfl)) (by first|rfl|(simp only[zam,qai,qb7];rfl)) (fun lo=>by first|rfl|exact qaM lo _|exact qaR lo _|exact qce lo _ _) (Ev.mono (ev0) fun N _ E s=>⟨i64 (cond b 1 0),s,(s207_eq _ _ _ _).trans ?_,(by first|rfl|exact qai _|exact qaN _|exact qb1 _ _)⟩)
 unfold s207
 cases b<;>rfl
theorem qb2 (t:Tm):ldL t.c 0 (some 5)=some t.v:=by rw[Tm.v_eq];rfl
theorem qrD (n m:Int)(a b:Tm)(hn:n=1\/n=2\/n=3\/n=4\/n=5)(hm:1<=m/\m<=64)(ha:0<=a.n/\a.n<64)(hb:0<=b.n/\b.n<64):PC CP 198 [(Tm.op n m a b).v] ((Tm.num (qgs n m a.n b.n) (if n=1\/n=2\/n=3 then m else 2)).v):=by
 refine PC.of2 (cf:=cf198) (np:=1) (args':=[(Tm.op n m a b).v]) (by kernel_rfl) (by kernel_rfl) rfl (by first|rfl|(simp only[zap,qal,qb6];rfl)) (by first|rfl|(simp only[zam,qai,qb7];rfl)) (fun lo=>by first|rfl|exact qaM lo _|exact qaR lo _|exact qce lo _ _) (Ev.mono ((qk1 (qgs n m a.n b.n) (if n=1\/n=2\/n=3 then m else 2)).and ((qqb (decide (a.n=b.n))).and (qqb (decide (a.n<b.n))))) fun N ⟨h,h1,h2⟩ E s=>⟨(Tm.num (qgs n m a.n b.n) (if n=1\/n=2\/n=3 then m else 2)).v,s,(s198_eq _ _ _ _).trans ?_,(by first|rfl|exact qai _|exact qaN _|exact qb1 _ _)⟩)
 obtain⟨i0,l0⟩:=qb5 (n:=N) (E:=E) (l:=[a,b]) (u:=a) rfl
 obtain⟨i1,l1⟩:=qdt (n:=N) (E:=E) (l:=[a,b]) (u:=b) rfl
 have f0:=fun s=>(kf (n:=N) (E:=E) (l:=[a,b]) (j:=0) (u:=a) rfl s).2.1
 have f1:=fun s=>(kf (n:=N) (E:=E) (l:=[a,b]) (j:=1) (u:=b) rfl s).2.1
 have hm0:m≠0:=by omega
 unfold s198
 rcases hn with rfl|rfl|rfl|rfl|rfl
 ·have e:qgs 1 m a.n b.n=(a.n+b.n).tmod m:=rfl
  rw[e] at h⊢
  have w:qbb .i64 (a.n+b.n)=a.n+b.n:=qbt (by omega) (by omega)
  simp only[true_or,if_true] at h⊢
  simp -implicitDefEqProofs only[i0,f0,i1,f1,w,qek _ _ _ hm0,h,qb2,qah,qbX,qd6,qbj,qau,qad,qaf,qay,zaj,decide_true,decide_false,qaa,cond_true,cond_false,zab,zaa,qab,Tm.n_mk,Tm.m_mk,Tm.ks_mk]
 ·have e:qgs 2 m a.n b.n=(a.n-b.n+m).tmod m:=rfl
  rw[e] at h⊢
  have w:qbb .i64 (a.n-b.n)=a.n-b.n:=qbt (by omega) (by omega)
  have w2:qbb .i64 (a.n-b.n+m)=a.n-b.n+m:=qbt (by omega) (by omega)
  simp only[true_or,or_true,if_true] at h⊢
  simp -implicitDefEqProofs only[i0,f0,i1,f1,w,w2,qek _ _ _ hm0,h,qb2,qah,qbX,qd6,qbj,qau,qad,qaf,qay,qa0,zaj,decide_true,decide_false,qaa,cond_true,cond_false,zab,zaa,qab,Tm.n_mk,Tm.m_mk,Tm.ks_mk]
 ·have e:qgs 3 m a.n b.n=(a.n*b.n).tmod m:=rfl
  rw[e] at h⊢
  have h64:a.n*b.n<=64*64:=Int.mul_le_mul (by omega) (by omega) (by omega) (by omega)
  have h0:0<=a.n*b.n:=Int.mul_nonneg ha.1 hb.1
  have w:qbb .i64 (a.n*b.n)=a.n*b.n:=qbt (by omega) (by omega)
  simp only[or_true,if_true] at h⊢
  simp -implicitDefEqProofs only[i0,f0,i1,f1,w,qo0,qek _ _ _ hm0,h,qb2,qah,qbX,qd6,qbj,qau,qad,qaf,zaj,decide_true,decide_false,qaa,cond_true,cond_false,zab,zaa,qab,Tm.n_mk,Tm.m_mk,Tm.ks_mk]
 ·have e:qgs 4 m a.n b.n=cond (decide (a.n=b.n)) 1 0:=rfl
  rw[e] at h⊢
  simp only[zaj,or_self,if_false] at h⊢
  simp -implicitDefEqProofs only[i0,f0,i1,f1,h,h1,qb2,qah,qbX,qd6,qbj,qau,qad,qaf,zaj,decide_true,decide_false,qaa,cond_true,cond_false,zab,zaa,qab,Tm.n_mk,Tm.m_mk,Tm.ks_mk]
 ·have e:qgs 5 m a.n b.n=cond (decide (a.n<b.n)) 1 0:=rfl
  rw[e] at h⊢
  simp only[zaj,or_self,if_false] at h⊢
  simp -implicitDefEqProofs only[i0,f0,i1,f1,h,h2,qb2,qah,qbX,qd6,qbj,qau,qad,qaf,qap,zaj,decide_false,qaa,cond_false,zab,zaa,qab,Tm.n_mk,Tm.m_mk,Tm.ks_mk]
end Go.AI.Tryz
namespace Go.AI.Tryz
abbrev zT:zA:=.agg [u8 0,i64 0,i64 0,i64 0,.sl 0 [] .full]
def qiC:Option Tm->zA
 |some t=> .tuple [t.v,bl true]
 |none=> .tuple [zT,bl false]
theorem qck (o:Option Tm):qaF (qiC o)=qcM o:=by
 cases o with
 |none=>rfl
 |some t=>exact qaN (some t)
theorem qa1 (t:Tm):qiC (some t)=.tuple [t.v,bl true]:=rfl
theorem qaA:qiC none=.tuple [zT,bl false]:=rfl
theorem bdZ:bd [u8 0,i64 0,i64 0,i64 0,.sl 0 [] .full] []=some zT:=rfl
theorem qb3 (t:Tm):cut t.c 4 1=some [kv t.ks]:=rfl
theorem qfY (t:Tm)(l:List Tm)(tk:Tk){n':Nat}(h:∀E s,cl (qag CP n' E) 200 [t.v,kv l] s=some ((t.with l).v,s))(E:qaU)(s:ASt):cl (qag CP n' E) 200 [t.v,.sl l.length (Tm.cellsL l) tk] s=some ((t.with l).v,s):=by
 rw[qfr (cf:=cf200) (by kernel_rfl) (by kernel_rfl)]
 simp only[zam,zbm,qai]
 exact h E s
theorem qrE {x:Sc}{n m:Int}{a b:Tm}(h:Nd x (.op n m a b)):(1<=m/\m<=64)/\(n=1\/n=2\/n=3\/n=4\/n=5)/\szF x a=(m,true)/\szF x b=(m,true)/\(szF x (.op n m a b)).1=if n=1\/n=2\/n=3 then m else 2:=by
 have hs:=h.gd.sz (by simp[Tm.k]) (by simp[Tm.k])
 rw[qeE] at hs⊢
 split at hs
 ·rename_i h1
  have hin:qbe m=true/\is2 (szF x a) m=true/\is2 (szF x b) m=true:=by simpa only[zag] using hs
  obtain⟨g1,g2,g3⟩:=hin
  rw[is2_iff] at g2 g3
  rw[if_pos h1]
  exact⟨isSize_iff.1 g1,by omega,g2,g3,by rw[if_pos h1]⟩
 ·rename_i h1
  split at hs
  ·rename_i h2
   have hin:qbe m=true/\is2 (szF x a) m=true/\is2 (szF x b) m=true:=by simpa only[zag] using hs
   obtain⟨g1,g2,g3⟩:=hin
   rw[is2_iff] at g2 g3
   rw[if_neg h1,if_pos h2]
   exact⟨isSize_iff.1 g1,by omega,g2,g3,by rw[if_neg h1]⟩
  ·cases hs
theorem qvN {x:Sc}{t:Tm}{m:Int}(h:szF x t=(m,true))(hn:qaI t=true):0<=t.n/\t.n<64/\t.m=m:=by
 have:=qdN (x:=x) (by rw[h]) hn
 rw[h] at this
 simp only at this
 omega
def qvO (r:Int)(x:Sc)(t:Tm):Option Tm:=if r=1 then opR x t else if r=4 then qcU t else if r=5 then qhU t else none
theorem qvP {x:Sc}{n m:Int}{a b:Tm}(h:Nd x (.op n m a b))(r:Int):PC CP 174 [u8 r,(Tm.op n m a b).v] (qcM (qvO r x (.op n m a b))):=by
 obtain⟨hm,hn,ha,hb,hsz⟩:=qrE h
 have ra:=fun q=>qvN ha q
 have rb:=fun q=>qvN hb q
 have e1:opR x (.op n m a b)=if qaI a&&qaI b then some (.num (qgs n m a.n b.n) (if n=1\/n=2\/n=3 then m else 2)) else none:=by rw[<-hsz];rfl
 have e4:qcU (.op n m a b)=if(qjB n).isSome&&(!qaI a&&(qaI b&&decide (b.n=(qjB n).getD 0))) then some a else none:=rfl
 have e5:qhU (.op n m a b)=if(decide (n=1)||(decide (n=3)||decide (n=4)))&&(qaI a&&!qaI b) then some (.op n m b a) else none:=rfl
 have er:Ev fun N=>qaI a=true/\qaI b=true->∀E s,cl (qag CP N E) 198 [(Tm.op n m a b).v] s=some ((Tm.num (qgs n m a.n b.n) (if n=1\/n=2\/n=3 then m else 2)).v,s):=
  Ev.imp fun q=>qrD n m a b hn hm ⟨(ra q.1).1,(ra q.1).2.1⟩ ⟨(rb q.2).1,(rb q.2).2.1⟩
 refine PC.of2 (cf:=cf174) (np:=2) (args':=[u8 r,(Tm.op n m a b).v]) (by kernel_rfl) (by kernel_rfl) rfl (by simp only[zap,qal];rfl) (by simp only[zam,qai];rfl) (fun lo=>qaR lo _)
  ((((qbU a).and (qbU b)).and (er.and (((qeA b 0 m).and (qeA b 1 m)).and (qeB (.op n m a b) [b,a])))).mono fun N ⟨⟨c1,c2⟩,c3,⟨c4,c5⟩,c6⟩ E s=>⟨qiC (qvO r x (.op n m a b)),s,(s174_eq _ _ _ _ _).trans ?_,qck _⟩)
 obtain⟨i0,l0⟩:=qb5 (n:=N) (E:=E) (l:=[a,b]) (u:=a) rfl
 obtain⟨i1,l1⟩:=qdt (n:=N) (E:=E) (l:=[a,b]) (u:=b) rfl
 have c6:=qfY (.op n m a b) [b,a] .full c6 E
 have e6:(Tm.op n m a b).with [b,a]=.op n m b a:=rfl
 rw[e6] at c6
 simp only[zar,zaC,zaF,Nat.reduceAdd] at c6
 have hmb:qaI b=true->b.m=m:=fun q=>(rb q).2.2
 unfold s174 s174_2 s174_1 s174_0 qvO
 rw[e1,e4,e5]
 by_cases r1:r=1
 ·by_cases qa:qaI a=true
  ·by_cases qb:qaI b=true
   ·have c3:=c3 ⟨qa,qb⟩
    simp -implicitDefEqProofs only[i0,l0,i1,l1,qb3,qaz,zat,qb2,r1,c1,c2,c3,qa,qb,qa1,if_true,qah,qbj,qau,qad,qaf,zaj,decide_true,decide_false,zak,qaa,cond_true,cond_false,qaj,zab,zaa,qab,cnd,Tm.ks_mk]
   ·simp only[zaR] at qb
    simp -implicitDefEqProofs only[i0,l0,i1,l1,qb3,qaz,zat,zaS,qb2,r1,c1,c2,qa,qb,qaA,bdZ,z5c,z5o,z5l,if_true,if_false,zai,qah,qbj,qau,qad,qaf,zaj,decide_true,decide_false,zak,zal,qaa,cond_true,cond_false,qaj,zab,zaa,qab,cnd,Tm.ks_mk]
  ·simp only[zaR] at qa
   simp -implicitDefEqProofs only[i0,l0,i1,l1,qb3,qaz,zat,zau,qb2,r1,c1,c2,qa,qaA,bdZ,z5c,z5o,z5l,if_true,if_false,zai,qah,qbj,qau,qad,qaf,zaj,decide_true,decide_false,zal,qaa,cond_true,cond_false,qaj,zab,zaa,qab,cnd,Tm.ks_mk]
 ·by_cases r4:r=4
  ·by_cases qa:qaI a=true
   ·simp -implicitDefEqProofs only[i0,l0,i1,l1,qb3,qaz,zat,zaS,zau,qb2,r4,c1,qa,qaA,bdZ,z5c,z5o,z5l,if_true,if_false,zai,qah,qbX,qd6,qbj,qau,qad,qaf,zaj,decide_true,decide_false,zak,qaa,cond_true,cond_false,qaj,zab,zaa,qab,qam,cnd,Tm.n_mk,Tm.m_mk,Tm.ks_mk]
   ·simp only[zaR] at qa
    by_cases qb:qaI b=true
    ·have t0:qbH b 0 m=decide (b.n=0):=by simp[qbH,qb,hmb qb]
     have t1:qbH b 1 m=decide (b.n=1):=by simp[qbH,qb,hmb qb]
     have u:¬((0:Int)=1):=by decide
     rw[t0] at c4
     rw[t1] at c5
     rcases hn with rfl|rfl|rfl|rfl|rfl<;>by_cases v0:b.n=0<;>by_cases v1:b.n=1<;>first|(exfalso;omega)|simp -implicitDefEqProofs only[i0,l0,i1,l1,qb3,qaz,zat,zaS,za8,qb2,r4,c1,c4,c5,qa,qb,v0,v1,u,qjB,qaA,qa1,bdZ,z5c,z5o,z5l,if_true,if_false,zai,qah,qbX,qd6,qbj,qau,qad,qaf,zaj,decide_true,decide_false,zak,zal,qaa,cond_true,cond_false,qaj,zab,zaa,qab,qam,cnd,Tm.n_mk,Tm.m_mk,Tm.ks_mk,zaB,zaG,zbe,zaD]
    ·simp only[zaR] at qb
     have t0:qbH b 0 m=false:=by simp[qbH,qb]
     have t1:qbH b 1 m=false:=by simp[qbH,qb]
     rw[t0] at c4
     rw[t1] at c5
     simp -implicitDefEqProofs only[i0,l0,i1,l1,qb3,qaz,zat,zaS,zau,qb2,r4,c1,c4,c5,qa,qb,qaA,bdZ,z5c,z5o,z5l,if_true,if_false,zai,qah,qbX,qd6,qbj,qau,qad,qaf,zaj,decide_true,decide_false,zal,qaa,cond_true,cond_false,qaj,zab,zaa,qab,qam,cnd,Tm.n_mk,Tm.m_mk,Tm.ks_mk]
  ·by_cases r5:r=5
   ·by_cases qa:qaI a=true
    ·by_cases qb:qaI b=true
     ·simp -implicitDefEqProofs only[i0,l0,i1,l1,qb3,qaz,zat,zaS,zau,zax,qb2,r5,c1,c2,qa,qb,qaA,bdZ,z5c,z5o,z5l,if_true,if_false,zai,qah,qbX,qbj,qau,qad,qaf,zaj,decide_true,decide_false,zak,qaa,cond_true,cond_false,qaj,zab,zaa,qab,qam,cnd,Tm.n_mk,Tm.ks_mk]
     ·simp only[zaR] at qb
      rcases hn with rfl|rfl|rfl|rfl|rfl<;>simp -implicitDefEqProofs only[i0,l0,i1,l1,qb3,qaz,zat,zaS,zau,Bool.or_true,zbk,za7,qb2,qre,r5,c1,c2,c6,qa,qb,qaA,qa1,bdZ,z5c,z5o,z5l,if_true,if_false,zai,qah,qbX,qbj,qau,qad,qaf,zaj,decide_true,decide_false,zak,zal,qaa,cond_true,cond_false,qaj,zab,zaa,qab,qam,cnd,Tm.n_mk,Tm.ks_mk]
    ·simp only[zaR] at qa
     simp -implicitDefEqProofs only[i0,l0,i1,l1,qb3,qaz,zat,zaS,zau,zax,qb2,r5,c1,c2,qa,qaA,bdZ,z5c,z5o,z5l,if_true,if_false,zai,qah,qbX,qbj,qau,qad,qaf,zaj,decide_true,decide_false,zal,qaa,cond_true,cond_false,qaj,zab,zaa,qab,qam,cnd,Tm.n_mk,Tm.ks_mk]
   ·simp -implicitDefEqProofs only[i0,l0,i1,l1,qb3,qaz,zat,r1,r4,r5,qaA,bdZ,z5c,z5o,z5l,if_false,qah,qbj,qau,qad,qaf,decide_false,qaa,cond_false,qaj,zab,zaa,qab,cnd,Tm.ks_mk]
end Go.AI.Tryz
namespace Go.AI.Tryz
structure Rd (x:Sc)(t:Tm):Prop where
 nd:Nd x t
 g:ScG x
 top:x.top<=Int.ofNat x.ids.length
 lab:x.size+t.size<=600
 len:x.ids.length+t.size<=900000
theorem qtU (x:Sc)(t:Tm)(j:Nat):(x.kid t j).ids.length<=x.ids.length+1/\(x.kid t j).size<=x.size+1:=by
 unfold Sc.kid
 split
 ·simp only[Sc.with,zay,zar,zaC];omega
 ·split
  ·simp only[Sc.with,zay,zar,zaC];omega
  ·split
   ·exact⟨Nat.le_succ _,Int.le_refl _⟩
   ·omega
theorem Rd.kid {x:Sc}{t u:Tm}{j:Nat}(h:Rd x t)(hu:t.ks[j]? =some u):Rd (x.kid t j) u:=by
 have hlt:=qa3 (zaN hu)
 have hn:=h.nd.kid hu
 have hk:=qtU x t j
 have hl:=h.lab
 have hl2:=h.len
 refine⟨hn,?_,qp9 h.top,by omega,by omega⟩
 have hsc:=hn.sc
 have hw:∀y:Se,y.ty.ps=[]->y.arg=false\/y.ty.res.cell=false->ScOk (x.with y)->ScG (x.with y):=fun y h1 h2 h3=>by
  refine⟨h3,?_,?_⟩<;>(intro e he;simp only[Sc.with,zaO,zaV] at he;rcases he with he|rfl)
  ·exact h.g.cell e he
  ·intro hc
   rcases h2 with h2|h2
   ·exact⟨h1,h2⟩
   ·rw[h2] at hc;cases hc
  ·exact h.g.ps e he
  ·intro p hp;rw[h1] at hp;cases hp
 revert hsc
 unfold Sc.kid
 split
 ·exact hw _ rfl (.inl rfl)
 ·split
  ·exact hw _ rfl (.inr rfl)
  ·split
   ·exact fun h3=>⟨h3,h.g.cell,h.g.ps⟩
   ·exact fun h3=>⟨h3,h.g.cell,h.g.ps⟩
theorem Rd.sub {x:Sc}{t u:Tm}{j:Nat}(h:Rd x t)(hu:t.ks[j]? =some u)(hk:t.k≠10/\t.k≠11/\t.k≠17):Rd x u:=by
 have:=h.kid hu
 unfold Sc.kid at this
 rw[if_neg hk.1,if_neg (fun q=>hk.2.2 q.1),if_neg (fun q=>hk.2.1 q.1)] at this
 exact this
theorem Rd.psize {x:Sc}{u:Tm}(h:Rd x u)(hk:u.k≠16/\u.k≠17):PC CP 123 [pv x,u.v] (i64 (szF x u).1):=qtT x u (by have:=h.lab;omega) h.nd h.g h.top hk h.len
theorem qjy (a b:zA):ldL [a,b] 0 (some 2)=some (.agg [a,b]):=rfl
theorem qqc {x:Sc}{c a b:Tm}(h:Nd x (.ite c a b)):(szF x c).2=true/\(szF x a).2=true/\(szF x b).2=true:=by
 have hs:=h.gd.sz (by simp[Tm.k]) (by simp[Tm.k])
 rw[qcv] at hs
 have hin:((szF x a).2=true/\is2 (szF x b) (szF x a).1=true)/\(szF x c).2=true:=by simpa only[zag] using hs
 rw[is2_iff] at hin
 exact⟨hin.2,hin.1.1,by rw[hin.1.2]⟩
def qwo (r:Int)(x:Sc)(t:Tm):Option Tm:=if r=6 then ifR t else if r=7 then qhV t else if r=8 then qnJ t else if r=9 then qhW x t else none
theorem qxp {x:Sc}{t:Tm}{r:Int}{o:Option Tm}(h:Ev fun N=>∀E s,∃v,s177 (qag CP N E) N (pv x) (u8 r) t.v s=some (v,s)/\qaF v=qcM o):PC CP 177 [pv x,u8 r,t.v] (qcM o):=
 PC.of2 (cf:=cf177) (np:=3) (args':=[pv x,u8 r,t.v]) (by kernel_rfl) (by kernel_rfl) rfl (by simp only[zap,qal];rfl) (by simp only[zam,qai];rfl) (fun lo=>qaR lo _)
  (h.mono fun N h E s=>by
   obtain⟨v,h1,h2⟩:=h E s
   exact⟨v,s,(s177_eq _ _ _ _ _ _).trans h1,h2⟩)
theorem qvQ {x:Sc}{c a b:Tm}(h:Rd x (.ite c a b))(r:Int):PC CP 177 [pv x,u8 r,(Tm.ite c a b).v] (qcM (qwo r x (.ite c a b))):=by
 obtain⟨hc,ha,hb⟩:=qqc h.nd
 refine qxp ?_
 unfold qwo
 by_cases r6:r=6
 ·rw[if_pos r6]
  have e:ifR (.ite c a b)=if qaI c then some (if c.n=0 then b else a) else none:=rfl
  rw[e]
  refine(qbU c).mono fun N c1 E s=>⟨qiC _,?_,qck _⟩
  obtain⟨i0,l0⟩:=qb5 (n:=N) (E:=E) (l:=[c,a,b]) (u:=c) rfl
  obtain⟨i1,l1⟩:=qdt (n:=N) (E:=E) (l:=[c,a,b]) (u:=a) rfl
  obtain⟨i2,l2⟩:=qnD (n:=N) (E:=E) (l:=[c,a,b]) (u:=b) rfl
  unfold s177 s177_4 s177_3 s177_2 s177_1 s177_0
  by_cases qc:qaI c=true
  ·by_cases q0:c.n=0<;>simp -implicitDefEqProofs only[pvc,i0,l0,i1,l1,i2,l2,qb3,qaz,zat,qb2,r6,c1,qc,q0,qa1,if_true,if_false,qah,qbX,qbj,qau,qad,qaf,qa6,zaj,decide_true,decide_false,zak,zal,qaa,cond_true,cond_false,qaj,zab,zaa,qab,cnd,Tm.ks_mk]
  ·simp only[zaR] at qc
   simp -implicitDefEqProofs only[pvc,i0,l0,i1,l1,i2,l2,qb3,qaz,zat,qb2,r6,c1,qc,bdZ,z5c,z5o,z5l,qaA,if_false,zai,qah,qbX,qbj,qau,qad,qaf,qa6,zaj,decide_true,decide_false,qaa,cond_true,cond_false,qaj,zab,zaa,qab,cnd,Tm.ks_mk]
 rw[if_neg r6]
 by_cases r7:r=7
 ·rw[if_pos r7]
  have e:qhV (.ite c a b)=if !qaI c&&decide (a=b) then some (.seq (.az 1 c) a) else none:=rfl
  rw[e]
  refine((qbU c).and (qo1 a b (h.nd.ok.kids a (by simp[Tm.ks])))).mono fun N ⟨c1,c2⟩ E s=>?_
  obtain⟨i0,l0⟩:=qb5 (n:=N) (E:=E) (l:=[c,a,b]) (u:=c) rfl
  obtain⟨i1,l1⟩:=qdt (n:=N) (E:=E) (l:=[c,a,b]) (u:=a) rfl
  obtain⟨i2,l2⟩:=qnD (n:=N) (E:=E) (l:=[c,a,b]) (u:=b) rfl
  have hb1:bd [u8 0,i64 0,i64 0,i64 0,.sl 0 [] .full] [(0,none,.c (u8 6)),(1,none,.c (i64 1)),(4,none,.c (.sl 1 (Tm.cellsL [c]) .full))]=some (.agg [u8 6,i64 1,i64 0,i64 0,.sl 1 (Tm.cellsL [c]) .full]):=rfl
  have hms:ms 2 [.int .u8 0,.int .i64 0,.int .i64 0,.int .i64 0,.sl 0 [],.int .u8 0,.int .i64 0,.int .i64 0,.int .i64 0,.sl 0 []] [(0,some 5,.c (.agg [u8 6,i64 1,i64 0,i64 0,.sl 1 (Tm.cellsL [c]) .full])),(5,some 5,.c a.v)]=some (.sl 2 (Tm.cellsL [.az 1 c,a]) .full):=by cases a;rfl
  have hb2:bd [u8 0,i64 0,i64 0,i64 0,.sl 0 [] .full] [(0,none,.c (u8 7)),(4,none,.c (.sl 2 (Tm.cellsL [.az 1 c,a]) .full))]=some (.agg [u8 7,i64 0,i64 0,i64 0,.sl 2 (Tm.cellsL [.az 1 c,a]) .full]):=rfl
  unfold s177 s177_4 s177_3 s177_2 s177_1 s177_0
  by_cases qc:qaI c=true
  ·refine⟨qiC _,?_,qck _⟩
   simp -implicitDefEqProofs only[pvc,i0,l0,i1,l1,i2,l2,qb3,qaz,zat,zau,qb2,r7,c1,qc,bdZ,z5c,z5o,z5l,qaA,if_false,zai,qah,qbj,qau,qad,qaf,zaj,decide_true,decide_false,zak,qaa,cond_true,cond_false,qaj,zab,zaa,qab,qam,cnd,Tm.ks_mk]
  ·simp only[zaR] at qc
   by_cases q:a=b
   ·refine⟨.tuple [.agg [u8 7,i64 0,i64 0,i64 0,.sl 2 (Tm.cellsL [.az 1 c,a]) .full],bl true],?_,?_⟩
    ·rw[decide_eq_true q] at c2
     simp -implicitDefEqProofs only[pvc,i0,l0,i1,l1,i2,l2,qb3,qaz,zat,qb2,qpk,hb1,hms,hb2,r7,c1,c2,qc,z5c,z5o,z5l,qah,qbj,qau,qad,qaf,zaj,decide_true,decide_false,zal,qaa,cond_true,cond_false,qaj,zab,zaa,qab,qam,cnd,Tm.ks_mk]
    ·rw[qc,decide_eq_true q]
     simp only[zal,zat,if_true]
     rw[qcM,zaB,Tm.v_eq]
     rfl
   ·refine⟨qiC _,?_,qck _⟩
    rw[decide_eq_false q] at c2⊢
    simp -implicitDefEqProofs only[pvc,i0,l0,i1,l1,i2,l2,qb3,qaz,zat,zaS,qb2,r7,c1,c2,qc,bdZ,z5c,z5o,z5l,qaA,if_false,zai,qah,qbj,qau,qad,qaf,zaj,decide_true,decide_false,zal,qaa,cond_true,cond_false,qaj,zab,zaa,qab,qam,cnd,Tm.ks_mk]
 rw[if_neg r7]
 by_cases r8:r=8
 ·rw[if_pos r8]
  by_cases hk:c.k=8
  ·cases qda hc with
   |ite p q w=>
    have e:qnJ (.ite (.ite p q w) a b)=if qbH q 0 2&&qbH w 1 2 then some (.ite p b a) else none:=rfl
    rw[e]
    refine(((qbU (.ite p q w)).and (qeB (.ite (.ite p q w) a b) [p,b,a])).and ((qeA q 0 2).and (qeA w 1 2))).mono fun N ⟨⟨c1,c2⟩,c3,c4⟩ E s=>⟨qiC _,?_,qck _⟩
    obtain⟨i0,l0⟩:=qb5 (n:=N) (E:=E) (l:=[.ite p q w,a,b]) (u:=.ite p q w) rfl
    obtain⟨i1,l1⟩:=qdt (n:=N) (E:=E) (l:=[.ite p q w,a,b]) (u:=a) rfl
    obtain⟨i2,l2⟩:=qnD (n:=N) (E:=E) (l:=[.ite p q w,a,b]) (u:=b) rfl
    obtain⟨j0,m0⟩:=qb5 (n:=N) (E:=E) (l:=[p,q,w]) (u:=p) rfl
    obtain⟨j1,m1⟩:=qdt (n:=N) (E:=E) (l:=[p,q,w]) (u:=q) rfl
    obtain⟨j2,m2⟩:=qnD (n:=N) (E:=E) (l:=[p,q,w]) (u:=w) rfl
    have c2:=qfY _ _ .full c2 E
    have e6:(Tm.ite (.ite p q w) a b).with [p,b,a]=.ite p b a:=rfl
    rw[e6] at c2
    simp only[zar,zaC,zaF,Nat.reduceAdd] at c2
    unfold s177 s177_4 s177_3 s177_2 s177_1 s177_0
    by_cases q1:qbH q 0 2=true
    ·by_cases q2:qbH w 1 2=true
     ·simp -implicitDefEqProofs only[pvc,i0,l0,i1,l1,i2,l2,j0,m0,j1,m1,j2,m2,qxz,c2,qb3,qaz,zat,qb2,r8,c3,c4,q1,q2,qa1,if_true,qah,qba,qbj,qau,qad,qaf,zaj,decide_true,decide_false,qaa,cond_true,cond_false,qaj,zab,zaa,qab,cnd,Tm.k_mk,Tm.ks_mk]
     ·simp only[zaR] at q2
      simp -implicitDefEqProofs only[pvc,i0,l0,i1,l1,i2,l2,j0,m0,j1,m1,j2,m2,qb3,qaz,zat,zaS,qb2,r8,c3,c4,q1,q2,bdZ,z5c,z5o,z5l,qaA,if_false,zai,qah,qba,qbj,qau,qad,qaf,zaj,decide_true,decide_false,qaa,cond_true,cond_false,qaj,zab,zaa,qab,cnd,Tm.k_mk,Tm.ks_mk]
    ·simp only[zaR] at q1
     simp -implicitDefEqProofs only[pvc,i0,l0,i1,l1,i2,l2,j0,m0,j1,m1,j2,m2,qb3,qaz,zat,zau,qb2,r8,c3,c4,q1,bdZ,z5c,z5o,z5l,qaA,if_false,zai,qah,qba,qbj,qau,qad,qaf,zaj,decide_true,decide_false,qaa,cond_true,cond_false,qaj,zab,zaa,qab,cnd,Tm.k_mk,Tm.ks_mk]
   |_=>simp only[Tm.k_mk] at hk;omega
  ·have e:qnJ (.ite c a b)=none:=by
    show(if c.k=8 then _ else none)=none
    rw[if_neg hk]
   rw[e]
   refine(qbU c).mono fun N c1 E s=>⟨qiC _,?_,qck _⟩
   obtain⟨i0,l0⟩:=qb5 (n:=N) (E:=E) (l:=[c,a,b]) (u:=c) rfl
   obtain⟨i1,l1⟩:=qdt (n:=N) (E:=E) (l:=[c,a,b]) (u:=a) rfl
   obtain⟨i2,l2⟩:=qnD (n:=N) (E:=E) (l:=[c,a,b]) (u:=b) rfl
   unfold s177 s177_4 s177_3 s177_2 s177_1 s177_0
   simp -implicitDefEqProofs only[pvc,i0,l0,i1,l1,i2,l2,qb3,qaz,zat,qb2,r8,hk,bdZ,z5c,z5o,z5l,qaA,qah,qba,qbj,qau,qad,qaf,zaj,decide_true,decide_false,qaa,cond_true,cond_false,qaj,zab,zaa,qab,cnd,Tm.ks_mk]
 rw[if_neg r8]
 by_cases r9:r=9
 ·rw[if_pos r9]
  have e:qhW x (.ite c a b)=if qbH a 1 2&&(qbH b 0 2&&(!qaI c&&decide ((szF x c).1=2))) then some c else none:=rfl
  rw[e]
  refine(((qbU c).and ((h.sub (j:=0) (u:=c) rfl (by simp[Tm.k])).psize (quj hc))).and ((qeA a 1 2).and (qeA b 0 2))).mono fun N ⟨⟨c1,c2⟩,c3,c4⟩ E s=>⟨qiC _,?_,qck _⟩
  obtain⟨i0,l0⟩:=qb5 (n:=N) (E:=E) (l:=[c,a,b]) (u:=c) rfl
  obtain⟨i1,l1⟩:=qdt (n:=N) (E:=E) (l:=[c,a,b]) (u:=a) rfl
  obtain⟨i2,l2⟩:=qnD (n:=N) (E:=E) (l:=[c,a,b]) (u:=b) rfl
  unfold s177 s177_4 s177_3 s177_2 s177_1 s177_0
  generalize (szF x c).1=z at c2⊢
  by_cases qc:qaI c=true
  ·simp -implicitDefEqProofs only[pvc,i0,l0,i1,l1,i2,l2,qb3,qaz,zat,zaS,zau,qb2,r9,c1,qc,bdZ,z5c,z5o,z5l,qaA,if_false,zai,qah,qbj,qau,qad,qaf,zaj,decide_true,decide_false,zak,qaa,cond_true,cond_false,qaj,zab,zaa,qab,qam,cnd,Tm.ks_mk]
  ·simp only[zaR] at qc
   by_cases qz:z=2<;>by_cases q1:qbH a 1 2=true<;>by_cases q2:qbH b 0 2=true<;>(try simp only[zaR] at q1)<;>(try simp only[zaR] at q2)<;>
    simp -implicitDefEqProofs only[pvc,qjy,i0,l0,i1,l1,i2,l2,qb3,qaz,zat,zaS,zau,qb2,r9,c1,c2,c3,c4,qc,qz,q1,q2,bdZ,z5c,z5o,z5l,qa1,qaA,if_true,if_false,zai,qah,qbj,qau,qad,qaf,zaj,decide_true,decide_false,zal,qaa,cond_true,cond_false,qaj,zab,zaa,qab,qam,cnd,Tm.ks_mk]
 rw[if_neg r9]
 refine ev0.mono fun N _ E s=>⟨qiC _,?_,qck _⟩
 obtain⟨i0,l0⟩:=qb5 (n:=N) (E:=E) (l:=[c,a,b]) (u:=c) rfl
 obtain⟨i1,l1⟩:=qdt (n:=N) (E:=E) (l:=[c,a,b]) (u:=a) rfl
 obtain⟨i2,l2⟩:=qnD (n:=N) (E:=E) (l:=[c,a,b]) (u:=b) rfl
 unfold s177 s177_4 s177_3 s177_2 s177_1 s177_0
 simp -implicitDefEqProofs only[pvc,i0,l0,i1,l1,i2,l2,qb3,qaz,zat,r6,r7,r8,r9,bdZ,z5c,z5o,z5l,qaA,qah,qbj,qau,qad,qaf,decide_false,qaa,cond_false,qaj,zab,zaa,qab,cnd,Tm.ks_mk]
end Go.AI.Tryz
namespace Go.AI.Tryz
theorem qqd {x:Sc}{a b:Tm}(h:Nd x (.seq a b)):(szF x a).2=true/\(szF x b).2=true/\(szF x (.seq a b)).1=(szF x b).1:=by
 have hs:=h.gd.sz (by simp[Tm.k]) (by simp[Tm.k])
 rw[qbY] at hs⊢
 have hin:(szF x b).2=true/\is2 (szF x a) 1=true:=by simpa only[zag] using hs
 rw[is2_iff] at hin
 exact⟨by rw[hin.2],hin.1,rfl⟩
def qrF (r:Int)(x:Sc)(t:Tm):Option Tm:=if r=10 then qhX t else if r=11 then qfP t else if r=12 then qfQ x t else if r=17 then qdO x t else none
theorem qxq {x:Sc}{t:Tm}{r:Int}{o:Option Tm}(h:Ev fun N=>∀E s,s178 (qag CP N E) N (pv x) (u8 r) t.v s=some (qiC o,s)):PC CP 178 [pv x,u8 r,t.v] (qcM o):=
 PC.of2 (cf:=cf178) (np:=3) (args':=[pv x,u8 r,t.v]) (by kernel_rfl) (by kernel_rfl) rfl (by simp only[zap,qal];rfl) (by simp only[zam,qai];rfl) (fun lo=>qaR lo _)
  (h.mono fun N h E s=>⟨qiC o,s,(s178_eq _ _ _ _ _ _).trans (h E s),qck _⟩)
theorem qtV {x:Sc}{a b:Tm}(h:Rd x (.seq a b))(r:Int):PC CP 178 [pv x,u8 r,(Tm.seq a b).v] (qcM (qrF r x (.seq a b))):=by
 obtain⟨ha,hb,hsz⟩:=qqd h.nd
 have e17:∀u w:Tm,(Tm.seq a b).with [u,w]=.seq u w:=fun _ _=>rfl
 refine qxq ?_
 unfold qrF
 by_cases r10:r=10
 ·rw[if_pos r10]
  have e:qhX (.seq a b)=if qaI a then some b else none:=rfl
  rw[e]
  refine(qbU a).mono fun N c1 E s=>?_
  obtain⟨i0,l0⟩:=qb5 (n:=N) (E:=E) (l:=[a,b]) (u:=a) rfl
  obtain⟨i1,l1⟩:=qdt (n:=N) (E:=E) (l:=[a,b]) (u:=b) rfl
  unfold s178 s178_3 s178_2 s178_1 s178_0
  by_cases qc:qaI a=true
  ·simp -implicitDefEqProofs only[pvc,i0,l0,i1,l1,qb3,qaz,zat,qb2,r10,c1,qc,qa1,if_true,qah,qbj,qau,qad,qaf,zaj,decide_true,decide_false,qaa,cond_true,cond_false,qaj,zab,zaa,qab,cnd,Tm.ks_mk]
  ·simp only[zaR] at qc
   simp -implicitDefEqProofs only[pvc,i0,l0,i1,l1,qb3,qaz,zat,qb2,r10,c1,qc,bdZ,z5c,z5o,z5l,qaA,if_false,zai,qah,qbj,qau,qad,qaf,zaj,decide_true,decide_false,qaa,cond_true,cond_false,qaj,zab,zaa,qab,cnd,Tm.ks_mk]
 rw[if_neg r10]
 by_cases r11:r=11
 ·rw[if_pos r11]
  by_cases hk:a.k=7
  ·cases qda ha with
   |seq p q=>
    have e:qfP (.seq (.seq p q) b)=some (.seq p (.seq q b)):=rfl
    rw[e]
    refine((qeB (.seq (.seq p q) b) [q,b]).and (qeB (.seq (.seq p q) b) [p,.seq q b])).mono fun N ⟨c1,c2⟩ E s=>?_
    obtain⟨i0,l0⟩:=qb5 (n:=N) (E:=E) (l:=[.seq p q,b]) (u:=.seq p q) rfl
    obtain⟨i1,l1⟩:=qdt (n:=N) (E:=E) (l:=[.seq p q,b]) (u:=b) rfl
    obtain⟨j0,m0⟩:=qb5 (n:=N) (E:=E) (l:=[p,q]) (u:=p) rfl
    obtain⟨j1,m1⟩:=qdt (n:=N) (E:=E) (l:=[p,q]) (u:=q) rfl
    have c1:=qfY _ _ .full c1 E
    have c2:=qfY _ _ .full c2 E
    rw[e17] at c1 c2
    simp only[zar,zaC,zaF,Nat.reduceAdd] at c1 c2
    unfold s178 s178_3 s178_2 s178_1 s178_0
    simp -implicitDefEqProofs only[pvc,i0,l0,i1,l1,j0,m0,j1,m1,qre,c1,c2,qb3,qaz,zat,qb2,r11,qa1,qah,qba,qbj,qau,qad,qaf,zaj,decide_true,decide_false,qaa,cond_true,cond_false,qaj,zab,zaa,qab,cnd,Tm.k_mk,Tm.ks_mk]
   |_=>simp only[Tm.k_mk] at hk;omega
  ·have e:qfP (.seq a b)=none:=by
    show(if a.k=7 then _ else none)=none
    rw[if_neg hk]
   rw[e]
   refine(qbU a).mono fun N c1 E s=>?_
   obtain⟨i0,l0⟩:=qb5 (n:=N) (E:=E) (l:=[a,b]) (u:=a) rfl
   obtain⟨i1,l1⟩:=qdt (n:=N) (E:=E) (l:=[a,b]) (u:=b) rfl
   unfold s178 s178_3 s178_2 s178_1 s178_0
   simp -implicitDefEqProofs only[pvc,i0,l0,i1,l1,qb3,qaz,zat,qb2,r11,hk,bdZ,z5c,z5o,z5l,qaA,qah,qba,qbj,qau,qad,qaf,zaj,decide_true,decide_false,qaa,cond_true,cond_false,qaj,zab,zaa,qab,cnd,Tm.ks_mk]
 rw[if_neg r11]
 by_cases r12:r=12
 ·rw[if_pos r12]
  have e:qfQ x (.seq a b)=if a.k=12\/a.k=14 then(if !decide (b=.num 0 (szF x b).1) then some (.seq a (.num 0 (szF x b).1)) else none) else none:=by rw[<-hsz];rfl
  rw[e]
  have hbz:decide (b=.num 0 (szF x b).1)=(qaI b&&decide (b.n=0)):=by
   cases qb:qaI b
   ·refine decide_eq_false fun q=>?_
    rw[q] at qb
    cases qb
   ·obtain⟨n,m,hnm⟩:=qez (qda hb) qb
    subst hnm
    have:(szF x (.num n m)).1=m:=by rw[qdv]
    rw[this]
    by_cases q:n=0
    ·subst q;simp[Tm.n]
    ·simp[Tm.n,q]
  rw[hbz]
  refine(((qbU b).and ((h.sub (j:=1) (u:=b) rfl (by simp[Tm.k])).psize (quj hb))).and ((qk1 0 (szF x b).1).and (qeB (.seq a b) [a,.num 0 (szF x b).1]))).mono fun N ⟨⟨c1,c2⟩,c3,c4⟩ E s=>?_
  obtain⟨i0,l0⟩:=qb5 (n:=N) (E:=E) (l:=[a,b]) (u:=a) rfl
  obtain⟨i1,l1⟩:=qdt (n:=N) (E:=E) (l:=[a,b]) (u:=b) rfl
  have c4:=qfY _ _ .full c4 E
  rw[e17] at c4
  simp only[zar,zaC,zaF,Nat.reduceAdd] at c4
  unfold s178 s178_3 s178_2 s178_1 s178_0
  generalize (szF x b).1=z at c2 c3 c4⊢
  by_cases k12:a.k=12
  ·by_cases qb:qaI b=true
   ·by_cases q0:b.n=0<;>simp -implicitDefEqProofs only[pvc,qjy,i0,l0,i1,l1,qb3,qaz,zat,zaS,qb2,qre,r12,k12,c1,c2,c3,c4,qb,q0,true_or,bdZ,z5c,z5o,z5l,qa1,qaA,if_true,if_false,zai,qah,qba,qbX,qbj,qau,qad,qaf,zaj,decide_true,decide_false,zak,zal,qaa,cond_true,cond_false,qaj,zab,zaa,qab,qam,cnd,Tm.ks_mk]
   ·simp only[zaR] at qb
    simp -implicitDefEqProofs only[pvc,qjy,i0,l0,i1,l1,qb3,qaz,zat,zau,qb2,qre,r12,k12,c1,c2,c3,c4,qb,true_or,bdZ,z5c,z5o,z5l,qa1,if_true,qah,qba,qbX,qbj,qau,qad,qaf,zaj,decide_true,decide_false,zal,qaa,cond_true,cond_false,qaj,zab,zaa,qab,qam,cnd,Tm.ks_mk]
  ·by_cases k14:a.k=14
   ·by_cases qb:qaI b=true
    ·by_cases q0:b.n=0<;>simp -implicitDefEqProofs only[pvc,qjy,i0,l0,i1,l1,qb3,qaz,zat,zaS,qb2,qre,r12,k14,c1,c2,c3,c4,qb,q0,or_true,bdZ,z5c,z5o,z5l,qa1,qaA,if_true,if_false,zai,qah,qba,qbX,qbj,qau,qad,qaf,zaj,decide_true,decide_false,zak,zal,qaa,cond_true,cond_false,qaj,zab,zaa,qab,qam,cnd,Tm.ks_mk]
    ·simp only[zaR] at qb
     simp -implicitDefEqProofs only[pvc,qjy,i0,l0,i1,l1,qb3,qaz,zat,zau,qb2,qre,r12,k14,c1,c2,c3,c4,qb,or_true,bdZ,z5c,z5o,z5l,qa1,if_true,qah,qba,qbX,qbj,qau,qad,qaf,zaj,decide_true,decide_false,zal,qaa,cond_true,cond_false,qaj,zab,zaa,qab,qam,cnd,Tm.ks_mk]
   ·simp -implicitDefEqProofs only[pvc,i0,l0,i1,l1,qb3,qaz,zat,qb2,r12,k12,k14,or_self,bdZ,z5c,z5o,z5l,qaA,if_false,qah,qba,qbX,qbj,qau,qad,qaf,zaj,decide_true,decide_false,qaa,cond_true,cond_false,qaj,zab,zaa,qab,qam,cnd,Tm.ks_mk]
 rw[if_neg r12]
 by_cases r17:r=17
 ·rw[if_pos r17]
  by_cases hk:a.k=4
  ·cases qda ha with
   |put i u=>
    have e:qdO x (.seq (.put i u) b)=if decide (b.k=3)&&(decide (i=b.i)&&(decide (x.top<i)&&qaI u)) then some (.seq (.put i u) u) else none:=rfl
    rw[e]
    refine((qbU u).and (qeB (.seq (.put i u) b) [.put i u,u])).mono fun N ⟨c1,c2⟩ E s=>?_
    obtain⟨i0,l0⟩:=qb5 (n:=N) (E:=E) (l:=[.put i u,b]) (u:=.put i u) rfl
    obtain⟨i1,l1⟩:=qdt (n:=N) (E:=E) (l:=[.put i u,b]) (u:=b) rfl
    obtain⟨j0,m0⟩:=qb5 (n:=N) (E:=E) (l:=[u]) (u:=u) rfl
    have c2:=qfY _ _ .full c2 E
    rw[show(Tm.seq (.put i u) b).with [.put i u,u]=.seq (.put i u) u from rfl] at c2
    simp only[zar,zaC,zaF,Nat.reduceAdd] at c2
    rw[show decide (i=b.i)=decide (b.i=i) from decide_eq_decide.2 eq_comm]
    unfold s178 s178_3 s178_2 s178_1 s178_0
    by_cases q1:x.top<i
    ·by_cases q2:qaI u=true
     ·by_cases q3:b.k=3
      ·by_cases q4:b.i=i<;>simp -implicitDefEqProofs only[pvc,bs1,i0,l0,i1,l1,j0,m0,qb3,qaz,zat,zaS,zau,qb2,qre,r17,c1,c2,q1,q2,q3,q4,bdZ,z5c,z5o,z5l,qa1,qaA,if_true,if_false,zai,qah,qba,qcJ,qbj,qau,qad,qaf,qaC,zaj,decide_true,decide_false,qaa,cond_true,cond_false,qaj,zab,zaa,qab,cnd,Tm.k_mk,Tm.i_mk,Tm.ks_mk]
      ·simp -implicitDefEqProofs only[pvc,bs1,i0,l0,i1,l1,j0,m0,qb3,qaz,zat,zau,qb2,r17,c1,q1,q2,q3,bdZ,z5c,z5o,z5l,qaA,if_false,zai,qah,qba,qcJ,qbj,qau,qad,qaf,qaC,zaj,decide_true,decide_false,qaa,cond_true,cond_false,qaj,zab,zaa,qab,cnd,Tm.k_mk,Tm.i_mk,Tm.ks_mk]
     ·simp only[zaR] at q2
      simp -implicitDefEqProofs only[pvc,bs1,i0,l0,i1,l1,j0,m0,qb3,qaz,zat,zaS,qb2,r17,c1,q1,q2,bdZ,z5c,z5o,z5l,qaA,if_false,zai,qah,qba,qcJ,qbj,qau,qad,qaf,qaC,zaj,decide_true,decide_false,qaa,cond_true,cond_false,qaj,zab,zaa,qab,cnd,Tm.k_mk,Tm.i_mk,Tm.ks_mk]
    ·simp -implicitDefEqProofs only[pvc,bs1,i0,l0,i1,l1,j0,m0,qb3,qaz,zat,zaS,zau,qb2,r17,q1,bdZ,z5c,z5o,z5l,qaA,if_false,zai,qah,qba,qcJ,qbj,qau,qad,qaf,qaC,zaj,decide_true,decide_false,qaa,cond_true,cond_false,qaj,zab,zaa,qab,cnd,Tm.k_mk,Tm.i_mk,Tm.ks_mk]
   |_=>simp only[Tm.k_mk] at hk;omega
  ·have e:qdO x (.seq a b)=none:=by
    show(if a.k=4 then _ else none)=none
    rw[if_neg hk]
   rw[e]
   refine(qbU a).mono fun N c1 E s=>?_
   obtain⟨i0,l0⟩:=qb5 (n:=N) (E:=E) (l:=[a,b]) (u:=a) rfl
   obtain⟨i1,l1⟩:=qdt (n:=N) (E:=E) (l:=[a,b]) (u:=b) rfl
   unfold s178 s178_3 s178_2 s178_1 s178_0
   simp -implicitDefEqProofs only[pvc,i0,l0,i1,l1,qb3,qaz,zat,qb2,r17,hk,bdZ,z5c,z5o,z5l,qaA,qah,qba,qcJ,qbj,qau,qad,qaf,zaj,decide_true,decide_false,qaa,cond_true,cond_false,qaj,zab,zaa,qab,cnd,Tm.ks_mk]
 rw[if_neg r17]
 refine ev0.mono fun N _ E s=>?_
 obtain⟨i0,l0⟩:=qb5 (n:=N) (E:=E) (l:=[a,b]) (u:=a) rfl
 obtain⟨i1,l1⟩:=qdt (n:=N) (E:=E) (l:=[a,b]) (u:=b) rfl
 unfold s178 s178_3 s178_2 s178_1 s178_0
 simp -implicitDefEqProofs only[pvc,i0,l0,i1,l1,qb3,qaz,zat,r10,r11,r12,r17,bdZ,z5c,z5o,z5l,qaA,qah,qbj,qau,qad,qaf,decide_false,qaa,cond_false,qaj,zab,zaa,qab,cnd,Tm.ks_mk]
end Go.AI.Tryz
namespace Go.AI.Tryz
theorem e0j (j:Nat):(Int.ofNat j=0)=(j=0):=by simp only[zaf,eq_iff_iff];omega
theorem qqe:∀(d:Nat) (t:Tm) (x:Sc) (l:Int),t.size<=d->Nd x t->0<=l->l+t.size<=1000000->PC CP 180 [t.v,i64 l] (bl (t.any qcw l))
 |0,t,_,_,h,_,_,_=>by have:=t.size_pos;omega
 |d+1,t,x,l,hd,hn,h0,hl=>by
  have hlt:∀u∈t.ks,u.size<t.size:=fun u hu=>qa3 hu
  have hkl:t.ks.length<=1000000:=by
   have:=Tm.len_le_size t.ks
   have:=Tm.size_ks t
   omega
  let lj:Nat->Int:=fun j=>if decide (t.k=11)&&decide (j=0) then l+1 else l
  have hkids:Ev fun N=>∀p∈(List.range t.ks.length),∀u,t.ks[p]? =some u->∀E s,cl (qag CP N E) 180 [u.v,i64 (lj p)] s=some (bl (u.any qcw (lj p)),s):=
   Ev.all _ fun p hp=>by
    have hpl:=za9.1 hp
    have hm:=za5 hpl
    have hlj:lj p=l\/lj p=l+1:=by simp only[lj];split<;>simp
    have:=hlt _ hm
    exact(qqe d t.ks[p] (x.kid t p) (lj p) (by omega) (hn.kid (zah hpl)) (by omega) (by omega)).mono fun N h u hu=>by
     rw[zah hpl] at hu
     cases hu
     exact h
  refine PC.of2 (cf:=cf180) (np:=2) (args':=[t.v,i64 l]) (by kernel_rfl) (by kernel_rfl) rfl (by simp only[zap,qal];rfl) (by simp only[zam,qai];rfl) (fun _=>rfl)
   ((hkids.and (Ev.ge (t.ks.length+1))).mono fun N ⟨hk,hN⟩ E s=>⟨bl (t.any qcw l),s,(s180_eq _ _ _ _ _).trans ?_,rfl⟩)
  rw[Tm.any_eq]
  unfold s180
  by_cases k12:t.k=12
  ·have hks:t.ks=[]:=by
    cases hn.sh with
    |jmp n=>rfl
    |_=>simp[Tm.k] at k12
   rw[hks]
   simp -implicitDefEqProofs only[k12,qcw,Tm.anyK,Bool.or_false,zax,qah,qba,qbX,qad,qaf,decide_true,qaa,cond_true,zab,zaa]
  ·have hle:qcw t l=false:=by simp[qcw,k12]
   rw[hle,za7]
   simp -implicitDefEqProofs only[k12,qah,qba,qbX,qad,qaf,decide_false,qaa,cond_false,zab,zaa]
   unfold s180_2
   refine qcH _ _ t.ks.length (fun j (L:zA->ASt->Res)=>L (i64 (.ofNat j)) s) (fun j=>some (bl (Tm.anyK qcw (decide (t.k=11)) l j (t.ks.drop j)),s)) (fun j L hj ih=>?_) (fun L=>?_) N 0 (za3 _) (by omega)
   ·have hkj:t.ks[j]? =some t.ks[j]:=zah hj
    have hc:=hk j (za9.2 hj) _ hkj E
    have hw:qbb .i64 (l+1)=l+1:=qbt (by omega) (by omega)
    rw[zaz hj]
    simp only[Tm.anyK]
    have fin:∀x1,x1=i64 (lj j)->s180_0 (qag CP N E) N t.c (i64 (.ofNat j)) s L x1=some (bl (Tm.any qcw t.ks[j] (lj j)||Tm.anyK qcw (decide (t.k=11)) l (j+1) (t.ks.drop (j+1))),s):=by
     rintro _ rfl
     unfold s180_0
     simp -implicitDefEqProofs only[Tm.ia_kid hj,Tm.ld_kid _ _ hkj,hc,qaO (show j<9223372036854775807 by omega),qbj,qad,qay,qaa,zab,zaa,qab]
     cases Tm.any qcw t.ks[j] (lj j)
     ·simp only[cond_false,za7];exact ih
     ·rfl
    unfold s180_1
    generalize s180_0 (qag CP N E) N=G at fin⊢
    by_cases k11:t.k=11
    ·by_cases j0:j=0
     ·have e:lj j=l+1:=by simp only[lj,k11,j0,decide_true,zat,if_true]
      have:=fin _ rfl
      rw[e] at this
      simp only[k11,j0] at this
      simp -implicitDefEqProofs only[k11,j0,e0j,hw,this,zat,if_true,qba,qbj,qad,qaf,qap,qay,decide_true,qaa,cond_true,qaj,zab,zaa,qbo]
      simp -implicitDefEqProofs only[j0] at hj⊢
      simp -implicitDefEqProofs only[of_lt.2 hj,decide_true,cond_true]
     ·have e:lj j=l:=by simp only[lj,j0,decide_false,zaS,zai,if_false]
      have:=fin _ rfl
      rw[e] at this
      simp only[k11] at this
      simp -implicitDefEqProofs only[k11,j0,e0j,of_lt.2 hj,this,zaS,zai,if_false,qba,qbj,qad,qaf,qap,qay,decide_true,decide_false,qaa,cond_true,cond_false,qaj,zab,zaa,qbo]
    ·have e:lj j=l:=by simp only[lj,k11,decide_false,zau,zai,if_false]
     have:=fin _ rfl
     rw[e] at this
     simp only[k11] at this
     simp -implicitDefEqProofs only[k11,of_lt.2 hj,this,zau,zai,if_false,qba,qbj,qad,qaf,qap,qay,decide_true,decide_false,qaa,cond_true,cond_false,qaj,zab,zaa,qbo]
   ·have h3:¬(Int.ofNat t.ks.length<Int.ofNat t.ks.length):=fun h=>zaZ _ (of_lt.1 h)
    rw[List.drop_of_length_le (zan _)]
    simp -implicitDefEqProofs only[h3,Tm.anyK,qba,qbj,qad,qaf,qap,decide_false,qaa,cond_false,qaj,zab,zaa,qbo]
end Go.AI.Tryz
namespace Go.AI.Tryz
theorem qqf (ar:Int):∀(d:Nat) (t:Tm) (l:Int),t.size<=d->t.size<=900000->PC CP 182 [t.v,i64 ar] (bl (!t.any (qd1 ar) l))
 |0,t,_,h,_=>by have:=t.size_pos;omega
 |d+1,t,l,hd,hs=>by
  have hlt:∀u∈t.ks,u.size<t.size:=fun u hu=>qa3 hu
  have hkl:t.ks.length<=1000000:=by
   have:=Tm.len_le_size t.ks
   have:=Tm.size_ks t
   omega
  let lj:Nat->Int:=fun j=>if decide (t.k=11)&&decide (j=0) then l+1 else l
  have hkids:Ev fun N=>∀p∈(List.range t.ks.length),∀u,t.ks[p]? =some u->∀E s,cl (qag CP N E) 182 [u.v,i64 ar] s=some (bl (!u.any (qd1 ar) (lj p)),s):=
   Ev.all _ fun p hp=>by
    have hpl:=za9.1 hp
    have:=hlt _ (za5 hpl)
    exact(qqf ar d t.ks[p] (lj p) (by omega) (by omega)).mono fun N h u hu=>by
     rw[zah hpl] at hu
     cases hu
     exact h
  refine PC.of2 (cf:=cf182) (np:=2) (args':=[t.v,i64 ar]) (by kernel_rfl) (by kernel_rfl) rfl (by simp only[zap,qal];rfl) (by simp only[zam,qai];rfl) (fun _=>rfl)
   ((hkids.and (Ev.ge (t.ks.length+1))).mono fun N ⟨hk,hN⟩ E s=>⟨bl (!t.any (qd1 ar) l),s,(s182_eq _ _ _ _ _).trans ?_,rfl⟩)
  rw[Tm.any_eq]
  have hloop:s182_0 (qag CP N E) N t.c (i64 ar) (i64 0) s=some (bl (!Tm.anyK (qd1 ar) (decide (t.k=11)) l 0 t.ks),s):=by
   unfold s182_0
   refine qcH _ _ t.ks.length (fun j (L:zA->ASt->Res)=>L (i64 (.ofNat j)) s) (fun j=>some (bl (!Tm.anyK (qd1 ar) (decide (t.k=11)) l j (t.ks.drop j)),s)) (fun j L hj ih=>?_) (fun L=>?_) N 0 (za3 _) (by omega)
   ·have hkj:t.ks[j]? =some t.ks[j]:=zah hj
    have hc:=hk j (za9.2 hj) _ hkj E
    rw[zaz hj]
    simp only[Tm.anyK]
    show _=some (bl (!(Tm.any (qd1 ar) t.ks[j] (lj j)||_)),s)
    simp -implicitDefEqProofs only[Tm.ia_kid hj,Tm.ld_kid _ _ hkj,of_lt.2 hj,hc,qaO (show j<9223372036854775807 by omega),qbj,qad,qap,qay,decide_true,qaa,cond_true,zab,zaa,qab,qam,qbo]
    cases Tm.any (qd1 ar) t.ks[j] (lj j)
    ·simp only[zal,zak,cond_false,za7];exact ih
    ·rfl
   ·have h3:¬(Int.ofNat t.ks.length<Int.ofNat t.ks.length):=fun h=>zaZ _ (of_lt.1 h)
    rw[List.drop_of_length_le (zan _)]
    simp -implicitDefEqProofs only[h3,Tm.anyK,qbj,qad,qap,qay,decide_false,zal,qaa,cond_false,zab,zaa,qbo]
  unfold s182 s182_1 qd1
  unfold qd1 at hloop
  generalize s182_0 (qag CP N E) N=G at hloop⊢
  by_cases k2:t.k=2
  ·simp -implicitDefEqProofs only[k2,zbk,qah,qba,qcJ,qad,qaf,qbc,qa9,zaj,decide_true,decide_false,zak,qaa,cond_true,cond_false,qaj,zab,zaa]
  ·by_cases k12:t.k=12
   ·simp -implicitDefEqProofs only[k12,zbk,Bool.or_true,qah,qba,qcJ,qad,qaf,qbc,qa9,zaj,decide_true,decide_false,zak,qaa,cond_true,cond_false,qaj,zab,zaa]
   ·by_cases i1:t.i<1
    ·have i2:¬(0<t.i):=by omega
     simp -implicitDefEqProofs only[k2,k12,i1,i2,hloop,za7,zau,qah,qba,qcJ,qad,qaf,qbc,qa9,decide_true,decide_false,zak,qaa,cond_true,cond_false,qaj,zab,zaa]
    ·have i2:0<t.i:=by omega
     by_cases i3:ar<t.i
     ·simp -implicitDefEqProofs only[k2,k12,i1,i2,i3,hloop,za7,zaS,qah,qba,qcJ,qad,qaf,qbc,qa9,decide_true,decide_false,zak,zal,qaa,cond_true,cond_false,qaj,zab,zaa]
     ·simp -implicitDefEqProofs only[k2,k12,i1,i2,i3,hloop,za7,zax,zbk,qah,qba,qcJ,qad,qaf,qbc,qa9,decide_true,decide_false,zak,zal,qaa,cond_true,cond_false,qaj,zab,zaa]
def oc (t:Tm)(v:zA):List zA:=[u8 t.k,i64 t.n,i64 t.m,i64 t.i,v]
theorem oc4 (t:Tm)(v:zA):ldL (oc t v) 4 none=some v:=rfl
theorem oco (t:Tm)(v w:zA):over (oc t v) 4 [w]=some (oc t w):=rfl
theorem ocl (t:Tm)(v:zA):ldL (oc t v) 0 (some 5)=some (.agg (oc t v)):=rfl
theorem occ (t:Tm)(v:zA):zA.cells (some 5) (.agg (oc t v))=some (oc t v):=rfl
theorem ocz (t:Tm)(v a b c d e:zA):over [a,b,c,d,e] 0 (oc t v)=some (oc t v):=rfl
theorem qhx (f:Nat->List zP)(k j:Nat):zA.cells none (qb9 f k j)=some [qb9 f k j]:=by cases j<;>rfl
theorem qgw (t:Tm)(ks:List Tm)(k:Nat)(hl:t.ks.length=ks.length)(ht:t.ks=ks):qaF (.agg (oc t (qb9 (fun j=>Tm.cellsL (ks.take j)) k ks.length)))=t.v:=by
 have h:=qdc (fun j=>Tm.cellsL (ks.take j)) k ks.length rfl
 simp only[List.take_length] at h
 rw[Tm.v_eq,ht,<-h]
 rfl
end Go.AI.Tryz
namespace Go.AI.Tryz
theorem qqg (g:Tm->Int->Tm)(lab:Bool)(l:Int):∀(ks:List Tm) (j i:Nat),(Tm.chgK g lab l j ks)[i]? =(ks[i]?).map fun u=>u.chg g (if lab&&decide (j+i=0) then l+1 else l)
 |[],j,i=>by simp[Tm.chgK]
 |u::r,j,0=>by simp[Tm.chgK]
 |u::r,j,i+1=>by
  simp only[Tm.chgK,zaK]
  rw[qqg g lab l r (j+1) i,show j+1+i=j+(i+1) by omega]
theorem tc1 (t:Tm)(v:Int):over t.c 1 [i64 v]=some (Tm.mk t.k v t.m t.i t.ks).c:=rfl
theorem tc4 (t:Tm)(v:zA):over t.c 4 [v]=some (oc t v):=rfl
theorem cn0:zA.cells none (.sl 0 [] .full)=some [.sl 0 [] .full]:=rfl
theorem cni (a:Int):zA.cells none (i64 a)=some [i64 a]:=rfl
theorem qqh:∀(d:Nat) (t:Tm) (l:Int),t.size<=d->t.Ok->0<=l->l+t.size<=1000000->PC CP 181 [t.v,i64 l] (t.chg qcK l).v
 |0,t,_,h,_,_,_=>by have:=t.size_pos;omega
 |d+1,t,l,hd,ok,h0,hl=>by
  have hlt:∀u∈t.ks,u.size<t.size:=fun u hu=>qa3 hu
  have hkl:t.ks.length<=1000000:=by
   have:=Tm.len_le_size t.ks
   have:=Tm.size_ks t
   omega
  let lj:Nat->Int:=fun j=>if decide (t.k=11)&&decide (0+j=0) then l+1 else l
  let ks:=Tm.chgK qcK (decide (t.k=11)) l 0 t.ks
  have hlen:ks.length=t.ks.length:=qgv _ _ _ _ _
  have hkj:∀j,∀hj:j<t.ks.length,ks[j]'(by omega)=t.ks[j].chg qcK (lj j):=fun j hj=>by
   have:=qqg qcK (decide (t.k=11)) l t.ks 0 j
   rw[zah hj,zah (show j<ks.length by omega)] at this
   exact Option.some.inj this
  have hkids:Ev fun N=>∀p∈(List.range t.ks.length),∀u,t.ks[p]? =some u->∀E s,cl (qag CP N E) 181 [u.v,i64 (lj p)] s=some ((u.chg qcK (lj p)).v,s):=
   Ev.all _ fun p hp=>by
    have hpl:=za9.1 hp
    have hm:=za5 hpl
    have:=hlt _ hm
    have hlj:lj p=l\/lj p=l+1:=by simp only[lj];split<;>simp
    exact(qqh d t.ks[p] (lj p) (by omega) (ok.kids _ hm) (by omega) (by omega)).mono fun N h u hu=>by
     rw[zah hpl] at hu
     cases hu
     exact h
  let f:Nat->List zP:=fun j=>Tm.cellsL (ks.take j)
  refine PC.of2 (cf:=cf181) (np:=2) (args':=[t.v,i64 l]) (by kernel_rfl) (by kernel_rfl) rfl (by simp only[zap,qal];rfl) (by simp only[zam,qai];rfl) (fun lo=>qaM lo _)
   ((hkids.and (Ev.ge (t.ks.length+1))).mono fun N ⟨hk,hN⟩ E s=>⟨.agg (oc (qcK t l) (qb9 f s.ntok ks.length)),qc5 s 5 ks.length,(s181_eq _ _ _ _ _).trans ?_,?_⟩)
  ·have hloop:∀t':Tm,s181_2 (qag CP N E) N (i64 l) (i64 0) t.c [u8 0,i64 0,i64 0,i64 0,.sl 0 [] .full] (oc t' (.sl 0 [] .full)) s=some (.agg (oc t' (qb9 f s.ntok ks.length)),qc5 s 5 ks.length):=fun t'=>by
    unfold s181_2
    refine qcH _ _ t.ks.length (fun j (L:zA->List zA->List zA->List zA->ASt->Res)=>L (i64 (.ofNat j)) t.c [u8 0,i64 0,i64 0,i64 0,.sl 0 [] .full] (oc t' (qb9 f s.ntok j)) (qc5 s 5 j)) (fun _=>some (.agg (oc t' (qb9 f s.ntok ks.length)),qc5 s 5 ks.length)) (fun j L hj ih=>?_) (fun L=>?_) N 0 (za3 _) (by omega)
    ·have hkj':t.ks[j]? =some t.ks[j]:=zah hj
     have hc:=hk j (za9.2 hj) _ hkj' E
     have hw:qbb .i64 (l+1)=l+1:=qbt (by omega) (by omega)
     have hap:=qfp (qag CP N E) (sz:=5) (b:=56) (f:=f) (y:=.sl 1 (ks[j]'(by omega)).cells .full) s j rfl (Tm.len_cells _) (by omega) (qbJ (by omega))
     rw[hkj j hj] at hap
     have fin:∀x1,x1=i64 (lj j)->s181_0 (qag CP N E) N (oc t' (qb9 f s.ntok j)) t.c (i64 (.ofNat j)) (qc5 s 5 j) L [u8 0,i64 0,i64 0,i64 0,.sl 0 [] .full] x1=some (.agg (oc t' (qb9 f s.ntok ks.length)),qc5 s 5 ks.length):=by
      rintro _ rfl
      unfold s181_0
      simp -implicitDefEqProofs only[oc4,Tm.ia_kid hj,Tm.ld_kid _ _ hkj',hc,qwl _ [.int .u8 0,.int .i64 0,.int .i64 0,.int .i64 0,.sl 0 []] rfl,hap,qhx,oco,qaO (show j<9223372036854775807 by omega),qbj,qad,qay,zab,zaa,qab]
      exact ih
     unfold s181_1
     generalize s181_0 (qag CP N E) N=G at fin⊢
     have hlt':=of_lt.2 hj
     by_cases k11:t.k=11
     ·by_cases j0:j=0
      ·have e:lj j=l+1:=by simp only[lj,k11,j0,zaF,decide_true,zat,if_true]
       have:=fin _ rfl
       rw[e] at this
       have e0:decide (Int.ofNat j=0)=true:=decide_eq_true (by rw[j0];rfl)
       simp -implicitDefEqProofs only[k11,e0,hlt',hw,this,qba,qbj,qad,qaf,qap,qay,decide_true,qaa,cond_true,qaj,zab,zaa,qbo]
      ·have e:lj j=l:=by simp only[lj,zaF,j0,decide_false,zaS,zai,if_false]
       have:=fin _ rfl
       rw[e] at this
       simp -implicitDefEqProofs only[k11,j0,e0j,hlt',this,qba,qbj,qad,qaf,qap,qay,decide_true,decide_false,qaa,cond_true,cond_false,qaj,zab,zaa,qbo]
     ·have e:lj j=l:=by simp only[lj,k11,decide_false,zau,zai,if_false]
      have:=fin _ rfl
      rw[e] at this
      simp -implicitDefEqProofs only[k11,hlt',this,qba,qbj,qad,qaf,qap,qay,decide_true,decide_false,qaa,cond_true,cond_false,qaj,zab,zaa,qbo]
    ·have h3:¬(Int.ofNat t.ks.length<Int.ofNat t.ks.length):=fun h=>zaZ _ (of_lt.1 h)
     generalize s181_1 (qag CP N E) N=G
     simp -implicitDefEqProofs only[h3,ocl,occ,ocz,hlen,qba,qbj,qad,qaf,qap,decide_false,qaa,cond_false,qaj,zab,zaa,qbo]
   have hfld:=qcg ok
   unfold s181 s181_4 s181_3
   generalize s181_2 (qag CP N E) N=G at hloop⊢
   by_cases k12:t.k=12
   ·by_cases hn:l<t.n
    ·have e:qcK t l=.mk t.k (t.n-1) t.m t.i t.ks:=if_pos ⟨k12,hn⟩
     have hw:qbb .i64 (t.n-1)=t.n-1:=qbt (by omega) (by omega)
     have:=hloop (.mk t.k (t.n-1) t.m t.i t.ks)
     rw[e]
     simp -implicitDefEqProofs only[k12,hn,hw,cni,tc1,tc4,cn0,qah,qaS,qba,qbX,qau,qad,qaf,qaC,qa0,decide_true,qaa,cond_true,cond_false,qaj,zab,zaa]
     simp only[k12] at this
     exact this
    ·have e:qcK t l=t:=if_neg (fun q=>hn q.2)
     rw[e]
     simp -implicitDefEqProofs only[k12,hn,tc4,cn0,hloop t,qah,qaS,qba,qbX,qau,qad,qaf,qaC,decide_true,decide_false,qaa,cond_true,cond_false,qaj,zab,zaa]
   ·have e:qcK t l=t:=if_neg (fun q=>k12 q.1)
    rw[e]
    simp -implicitDefEqProofs only[k12,tc4,cn0,hloop t,qah,qaS,qba,qbX,qau,qad,qaf,qaC,decide_false,qaa,cond_false,qaj,zab,zaa]
  ·rw[Tm.chg_eq]
   have:=qgw (.mk (qcK t l).k (qcK t l).n (qcK t l).m (qcK t l).i ks) ks s.ntok rfl rfl
   exact this
end Go.AI.Tryz
namespace Go.AI.Tryz
theorem qsr (id:Int)(val:Tm):∀(ks:List Tm) (i:Nat),(woL id val ks)[i]? =(ks[i]?).map (woF id val)
 |[],i=>by simp[woL]
 |u::r,0=>by simp[woL]
 |u::r,i+1=>by simp only[woL,zaK];exact qsr id val r i
theorem tc3 (t:Tm)(v:Int):over t.c 3 [i64 v]=some (Tm.mk t.k t.n t.m v t.ks).c:=rfl
theorem qss (id:Int)(h0:0<=id)(val:Tm):∀(d:Nat) (t:Tm) (X:Sc),t.size<=d->Nd X t->PC CP 202 [t.v,i64 id,val.v] (woF id val t).v
 |0,t,_,h,_=>by have:=t.size_pos;omega
 |d+1,t,X,hd,hn=>by
  have hlt:∀u∈t.ks,u.size<t.size:=fun u hu=>qa3 hu
  have hsz:=hn.size
  have hkl:t.ks.length<=1000000:=by
   have:=Tm.len_le_size t.ks
   have:=Tm.size_ks t
   omega
  let ks:=woL id val t.ks
  have hlen:ks.length=t.ks.length:=qlU _ _ _
  have hkj:∀j,∀hj:j<t.ks.length,ks[j]'(by omega)=woF id val t.ks[j]:=fun j hj=>by
   have:=qsr id val t.ks j
   rw[zah hj,zah (show j<ks.length by omega)] at this
   exact Option.some.inj this
  have hkids:Ev fun N=>∀p∈(List.range t.ks.length),∀u,t.ks[p]? =some u->∀E s,cl (qag CP N E) 202 [u.v,i64 id,val.v] s=some ((woF id val u).v,s):=
   Ev.all _ fun p hp=>by
    have hpl:=za9.1 hp
    have:=hlt _ (za5 hpl)
    exact(qss id h0 val d t.ks[p] (X.kid t p) (by omega) (hn.kid (zah hpl))).mono fun N h u hu=>by
     rw[zah hpl] at hu
     cases hu
     exact h
  let f:Nat->List zP:=fun j=>Tm.cellsL (ks.take j)
  refine PC.of2 (cf:=cf202) (np:=3) (args':=[t.v,i64 id,val.v]) (by kernel_rfl) (by kernel_rfl) rfl (by simp only[zap,qal];rfl) (by simp only[zam,qai];rfl) (fun lo=>qaM lo _)
   ((hkids.and (Ev.ge (t.ks.length+1))).mono fun N ⟨hk,hN⟩ E s=>?_)
  suffices ∃r s',s202 (qag CP N E) N t.v (i64 id) val.v s=some (r,s')/\qaF r=(woF id val t).v by
   obtain⟨r,s',h1,h2⟩:=this
   exact⟨r,s',(s202_eq _ _ _ _ _ _).trans h1,h2⟩
  have hloop:∀t':Tm,s202_0 (qag CP N E) N (i64 id) (i64 0) t.c val.c [u8 0,i64 0,i64 0,i64 0,.sl 0 [] .full] (oc t' (.sl 0 [] .full)) s=some (.agg (oc t' (qb9 f s.ntok ks.length)),qc5 s 5 ks.length):=fun t'=>by
   unfold s202_0
   refine qcH _ _ t.ks.length (fun j (L:zA->List zA->List zA->List zA->List zA->ASt->Res)=>L (i64 (.ofNat j)) t.c val.c [u8 0,i64 0,i64 0,i64 0,.sl 0 [] .full] (oc t' (qb9 f s.ntok j)) (qc5 s 5 j)) (fun _=>some (.agg (oc t' (qb9 f s.ntok ks.length)),qc5 s 5 ks.length)) (fun j L hj ih=>?_) (fun L=>?_) N 0 (za3 _) (by omega)
   ·have hkj':t.ks[j]? =some t.ks[j]:=zah hj
    have hc:=hk j (za9.2 hj) _ hkj' E
    have hap:=qfp (qag CP N E) (sz:=5) (b:=56) (f:=f) (y:=.sl 1 (ks[j]'(by omega)).cells .full) s j rfl (Tm.len_cells _) (by omega) (qbJ (by omega))
    rw[hkj j hj] at hap
    simp -implicitDefEqProofs only[oc4,of_lt.2 hj,Tm.ia_kid hj,Tm.ld_kid _ _ hkj',qb2,hc,qwl _ [.int .u8 0,.int .i64 0,.int .i64 0,.int .i64 0,.sl 0 []] rfl,hap,qhx,oco,qaO (show j<9223372036854775807 by omega),qbj,qad,qap,qay,decide_true,qaa,cond_true,zab,zaa,qab,qbo]
    exact ih
   ·have h3:¬(Int.ofNat t.ks.length<Int.ofNat t.ks.length):=fun h=>zaZ _ (of_lt.1 h)
    simp -implicitDefEqProofs only[h3,ocl,occ,ocz,hlen,qaS,qbj,qad,qap,qay,decide_false,qaa,cond_false,zab,zaa,qbo]
  have hfld:=qcg hn.ok
  have helse:∀i':Int,i'=(if id<t.i then t.i-1 else t.i)->s202_2 (qag CP N E) N (i64 id) t.c val.c [u8 0,i64 0,i64 0,i64 0,.sl 0 [] .full] [] s=some (.agg (oc (.mk t.k t.n t.m i' t.ks) (qb9 f s.ntok ks.length)),qc5 s 5 ks.length)/\qaF (.agg (oc (.mk t.k t.n t.m i' t.ks) (qb9 f s.ntok ks.length)))=(Tm.mk t.k t.n t.m i' ks).v:=fun i' hi=>by
   refine⟨?_,qgw (.mk t.k t.n t.m i' ks) ks s.ntok rfl rfl⟩
   have hl:=hloop (.mk t.k t.n t.m i' t.ks)
   unfold s202_2 s202_1
   generalize s202_0 (qag CP N E) N=G at hl⊢
   by_cases hid:id<t.i
   ·rw[if_pos hid] at hi
    subst hi
    have hw:qbb .i64 (t.i-1)=t.i-1:=qbt (by omega) (by omega)
    simp -implicitDefEqProofs only[qb2,hid,hw,cni,tc3,tc4,cn0,hl,qah,qcJ,qau,qad,qaC,qa0,decide_true,qaa,cond_true,qaj,zab,zaa]
   ·rw[if_neg hid] at hi
    subst hi
    rw[qsg] at hl⊢
    simp -implicitDefEqProofs only[qb2,hid,tc4,cn0,hl,qah,qcJ,qau,qad,qaC,decide_false,qaa,cond_false,qaj,zab,zaa]
  rw[qtt]
  unfold s202
  generalize s202_2 (qag CP N E) N=G at helse⊢
  by_cases hi:t.i=id
  ·rw[if_pos hi]
   by_cases k3:t.k=3
   ·rw[if_pos k3]
    refine⟨val.v,s,?_,qai _⟩
    simp -implicitDefEqProofs only[hi,k3,qb2,qah,qba,qcJ,qbj,qau,qad,qaf,zaj,decide_true,decide_false,qaa,cond_true,cond_false,qaj,zab,zaa]
   ·rw[if_neg k3]
    by_cases k4:t.k=4
    ·rw[if_pos k4]
     cases hn.sh with
     |put i u=>
      obtain⟨i0,l0⟩:=qb5 (n:=N) (E:=E) (l:=[u]) (u:=u) rfl
      have hc:=hk 0 (by simp[Tm.ks]) u rfl E
      have hb1:bd [u8 0,i64 0,i64 0,i64 0,.sl 0 [] .full] [(0,none,.c (u8 6)),(1,none,.c (i64 1)),(4,none,.c (.sl 1 (Tm.cellsL [woF id val u]) .full))]=some (.agg [u8 6,i64 1,i64 0,i64 0,.sl 1 (Tm.cellsL [woF id val u]) .full]):=rfl
      refine⟨.agg [u8 6,i64 1,i64 0,i64 0,.sl 1 (Tm.cellsL [woF id val u]) .full],s,?_,?_⟩
      ·have hi':i=id:=hi
       simp -implicitDefEqProofs only[hi',i0,l0,hc,qb2,qpk,hb1,z5c,z5o,z5l,qah,qba,qcJ,qbj,qau,qad,qaf,zaj,decide_true,decide_false,qaa,cond_true,cond_false,qaj,zab,zaa,qab,Tm.k_mk,Tm.i_mk,Tm.ks_mk]
      ·show _=(Tm.az 1 (woF id val u)).v
       rw[Tm.v_eq]
       rfl
     |_=>simp[Tm.k] at k4
    ·rw[if_neg k4]
     by_cases k18:t.k=18
     ·rw[if_pos k18]
      cases hn.sh with
      |ntc n i u=>
       obtain⟨i0,l0⟩:=qb5 (n:=N) (E:=E) (l:=[u]) (u:=u) rfl
       have hc:=hk 0 (by simp[Tm.ks]) u rfl E
       refine⟨(woF id val u).v,s,?_,qai _⟩
       have hi':i=id:=hi
       simp -implicitDefEqProofs only[hi',i0,l0,hc,qb2,qah,qba,qcJ,qbj,qau,qad,qaf,zaj,decide_true,decide_false,qaa,cond_true,cond_false,qaj,zab,zaa,qab,Tm.k_mk,Tm.i_mk,Tm.ks_mk]
      |_=>simp[Tm.k] at k18
     ·rw[if_neg k18]
      obtain⟨h1,h2⟩:=helse t.i (by rw[if_neg (by omega)])
      refine⟨_,qc5 s 5 ks.length,?_,h2⟩
      simp -implicitDefEqProofs only[hi,k3,k4,k18,h1,qah,qaS,qba,qcJ,qbj,qau,qad,qaf,decide_true,decide_false,qaa,cond_true,cond_false,qaj,zab,zaa]
  ·rw[if_neg hi]
   obtain⟨h1,h2⟩:=helse _ rfl
   refine⟨_,qc5 s 5 ks.length,?_,h2⟩
   simp -implicitDefEqProofs only[hi,h1,qah,qaS,qba,qcJ,qbj,qau,qad,qaf,decide_false,qaa,cond_false,qaj,zab,zaa]
end Go.AI.Tryz
namespace Go.AI.Tryz
theorem qd3 (l o:Nat)(k:zA->Res):qk6 (.ptr l o) k=k (.ptr l o):=rfl
structure Cm (b:Bool)(n:Nat)(y z:Int):Prop where
 ge:y<=z
 le:z<=y+n
 pos:0<z↔0<y\/b=true
theorem Cm.trans {b b':Bool}{n n':Nat}{y z w:Int}(h:Cm b n y z)(k:Cm b' n' z w):Cm (b||b') (n+n') y w:=by
 have h1:=h.ge
 have h2:=h.le
 have k1:=k.ge
 have k2:=k.le
 refine⟨by omega,by omega,?_⟩
 rw[k.pos,h.pos,za4,or_assoc]
theorem Cm.refl (n:Nat)(y:Int):Cm false n y y:=⟨Int.le_refl _,by omega,by simp⟩
theorem Cm.one {y:Int}(h:0<=y):Cm true 1 y (y+1):=⟨by omega,by omega,by simp;omega⟩
theorem qk2 {is:Tm->Int->Bool}(h:∀t l l',is t l=is t l'):∀(d:Nat) (t:Tm) (l l':Int),t.size<=d->t.any is l=t.any is l'
 |0,t,_,_,hd=>by have:=t.size_pos;omega
 |d+1,t,l,l',hd=>by
  have hlt:∀u∈t.ks,u.size<t.size:=fun u hu=>qa3 hu
  have hk:∀(ks:List Tm) (j:Nat),(∀u∈ks,u.size<=d)->Tm.anyK is (decide (t.k=11)) l j ks=Tm.anyK is (decide (t.k=11)) l' j ks:=by
   intro ks
   induction ks with
   |nil=>intro j _;rfl
   |cons u r ih=>
    intro j hu
    simp only[Tm.anyK]
    rw[qk2 h d u _ (if decide (t.k=11)&&decide (j=0) then l'+1 else l') (hu u (zav ..)),ih (j+1) fun v hv=>hu v (zaw _ hv)]
  rw[Tm.any_eq,Tm.any_eq,h t l l',hk t.ks 0 fun u hu=>by have:=hlt u hu;omega]
theorem qm7 {is:Tm->Int->Bool}(h:∀t l l',is t l=is t l')(lab:Bool)(l:Int):∀(ks:List Tm) (j:Nat),Tm.anyK is lab l j ks=ks.any fun u=>u.any is 0
 |[],_=>rfl
 |u::r,j=>by
  simp only[Tm.anyK,List.any_cons]
  rw[qm7 h lab l r (j+1),qk2 h u.size u _ 0 (zan _)]
theorem qlW {is:Tm->Int->Bool}(h:∀t l l',is t l=is t l')(t:Tm):t.any is 0=(is t 0||t.ks.any fun u=>u.any is 0):=by
 rw[Tm.any_eq,qm7 h]
def qrG (id:Int)(ba bp bh:Bool)(sz:Nat)(l:Nat)(H:qaU)(a p h:Int)(s s':ASt):Prop:=
 ∃a' p' h':Int,s'={s with heap:=(l,.cells [i64 a',i64 p',i64 h'])::H}/\Cm ba sz a a'/\Cm bp sz p p'/\Cm bh sz h h'
theorem qm8 (id:Int):∀d,d<=1000000->Ev fun n=>∀t:Tm,t.size<=d->∀E s l H (a p h:Int),s.heap=(l,.cells [i64 a,i64 p,i64 h])::H->0<=a/\a+t.size<=1000000000->0<=p/\p+t.size<=1000000000->0<=h/\h+t.size<=1000000000->
  ∃s',cl (qag CP n E) 201 [.ptr l 0,t.v,i64 id] s=some (.tuple [],s')/\qrG id (t.any (isA id) 0) (t.any (isP id) 0) (t.any (isH id) 0) t.size l H a p h s s'
 |0,_=>Ev.of fun n t h=>by have:=t.size_pos;omega
 |d+1,hd=>by
  refine Ev.succ (((qm8 id d (by omega)).and (Ev.ge (d+3))).mono fun n ⟨ih,hn⟩ t hsz E s l H a p h hs ba bp bh=>?_)
  suffices ∃s',s201 (qag CP n E) n (.ptr l 0) t.v (i64 id) s=some (.tuple [],s')/\qrG id (t.any (isA id) 0) (t.any (isP id) 0) (t.any (isH id) 0) t.size l H a p h s s' by
   obtain⟨s',e1,e2⟩:=this
   refine⟨s',?_,e2⟩
   rw[qb0]
   exact qfn (cf:=cf201) (np:=3) (args':=[.ptr l 0,t.v,i64 id]) (v:=.tuple []) (by kernel_rfl) (by kernel_rfl) rfl (by simp only[zap,qal];rfl) (by simp only[zam,qai];rfl) ((s201_eq _ _ _ _ _ _).trans e1) rfl rfl
  have hlen:=Tm.len_le_size t.ks
  have hts:=Tm.size_ks t
  have key:∀(r done:List Tm) (j k:Nat) (a p h:Int) (s:ASt),t.ks=done++r->done.length=j->r.length<k->s.heap=(l,.cells [i64 a,i64 p,i64 h])::H->0<=a/\a+Tm.sizeL r<=1000000000->0<=p/\p+Tm.sizeL r<=1000000000->0<=h/\h+Tm.sizeL r<=1000000000->
    ∃s',lp (fun _ _=>none) (fun h10 x8 s9=>(ldL t.c 4 none).bind fun x11=>(ln false x11).bind fun x12=>(bn .lss x8 x12).bind fun x13=>qae x13 ((ldL t.c 4 none).bind fun x14=>qac (iaV 5 x14 x8) fun q15 o16=>(ldH (qag CP n E) s9 (.elem q15 o16) (some 5)).bind fun x17=>
     qac (cl (qag CP n E) 201 [.ptr l 0,x17,i64 id] s9) fun x18 s19=>(bn .add x8 (i64 1)).bind fun x20=>h10 x20 s19) (some (.tuple [],s9))) k (i64 (.ofNat j)) s=some (.tuple [],s')/\
     qrG id (r.any fun u=>u.any (isA id) 0) (r.any fun u=>u.any (isP id) 0) (r.any fun u=>u.any (isH id) 0) (Tm.sizeL r) l H a p h s s':=by
   intro r
   induction r with
   |nil=>
    intro done j k a p h s h1 h2 hk hs _ _ _
    obtain⟨k,rfl⟩:∃m,k=m+1:=⟨k-1,by simp only[zaC] at hk;omega⟩
    have hj:j=t.ks.length:=by rw[h1];simp[h2]
    have hnl:¬(Int.ofNat j<Int.ofNat t.ks.length):=fun h=>by have:=of_lt.1 h;omega
    rw[qa5]
    refine⟨s,?_,a,p,h,by rw[<-hs],Cm.refl _ _,Cm.refl _ _,Cm.refl _ _⟩
    simp -implicitDefEqProofs only[hnl,qbj,qad,qap,qay,decide_false,qaa,cond_false,zab,zaa,qbo]
   |cons u r ih2=>
    intro done j k a p h s h1 h2 hk hs b1 b2 b3
    obtain⟨k,rfl⟩:∃m,k=m+1:=⟨k-1,by simp only[zar] at hk;omega⟩
    simp only[zar,Tm.sizeL] at hk b1 b2 b3
    have hu:t.ks[j]? =some u:=by rw[h1,zaA (by omega),h2];simp
    have hjl:j<t.ks.length:=(zao.1 hu).1
    have hus:u.size<t.size:=qa3 (zaN hu)
    obtain⟨s1,c1,a',p',h',e1,m1,m2,m3⟩:=ih u (by omega) E s l H a p h hs (by omega) (by omega) (by omega)
    have g1:=m1.le
    have g2:=m2.le
    have g3:=m3.le
    have g4:=m1.ge
    have g5:=m2.ge
    have g6:=m3.ge
    obtain⟨s2,c2,a2,p2,h2',e2,n1,n2,n3⟩:=ih2 (done++[u]) (j+1) k a' p' h' s1 (by rw[h1];simp) (by simp[h2]) (by omega) (by rw[e1]) (by omega) (by omega) (by omega)
    refine⟨s2,?_,a2,p2,h2',by rw[e2,e1],?_,?_,?_⟩
    ·rw[qa5]
     generalize lp _ _ k=L at c2⊢
     simp -implicitDefEqProofs only[of_lt.2 hjl,Tm.ia_kid hjl,Tm.ld_kid _ _ hu,c1,qaO (show j<9223372036854775807 by omega),qbj,qad,qap,qay,decide_true,qaa,cond_true,zab,zaa,qab,qbo]
     exact c2
    ·simp only[List.any_cons,Tm.sizeL];exact m1.trans n1
    ·simp only[List.any_cons,Tm.sizeL];exact m2.trans n2
    ·simp only[List.any_cons,Tm.sizeL];exact m3.trans n3
  have cA:∀t l l',isA id t l=isA id t l':=fun _ _ _=>rfl
  have cP:∀t l l',isP id t l=isP id t l':=fun _ _ _=>rfl
  have cH:∀t l l',isH id t l=isH id t l':=fun _ _ _=>rfl
  rw[qlW cA,qlW cP,qlW cH,hts]
  have fin:∀(a1 p1 h1:Int) (s1:ASt),s1={s with heap:=(l,.cells [i64 a1,i64 p1,i64 h1])::H}->Cm (isA id t 0) 1 a a1->Cm (isP id t 0) 1 p p1->Cm (isH id t 0) 1 h h1->
    ∃s',s201_0 (qag CP n E) n t.c (.ptr l 0) (i64 id) (i64 0) s1=some (.tuple [],s')/\qrG id (isA id t 0||t.ks.any fun u=>u.any (isA id) 0) (isP id t 0||t.ks.any fun u=>u.any (isP id) 0) (isH id t 0||t.ks.any fun u=>u.any (isH id) 0) (1+Tm.sizeL t.ks) l H a p h s s':=by
   intro a1 p1 h1 s1 hs1 m1 m2 m3
   have g1:=m1.le
   have g2:=m2.le
   have g3:=m3.le
   have g4:=m1.ge
   have g5:=m2.ge
   have g6:=m3.ge
   obtain⟨s',e1,a',p',h',e2,n1,n2,n3⟩:=key t.ks [] 0 n a1 p1 h1 s1 rfl rfl (by omega) (by rw[hs1]) (by omega) (by omega) (by omega)
   exact⟨s',e1,a',p',h',by rw[e2,hs1],m1.trans n1,m2.trans n2,m3.trans n3⟩
  have same:s={s with heap:=(l,.cells [i64 a,i64 p,i64 h])::H}:=by rw[<-hs]
  have hc:qas (qag CP n E).E s l=some [i64 a,i64 p,i64 h]:=qaX hs
  have wa:qbb .i64 (a+1)=a+1:=qbt (by omega) (by omega)
  have wp:qbb .i64 (p+1)=p+1:=qbt (by omega) (by omega)
  have wh:qbb .i64 (h+1)=h+1:=qbt (by omega) (by omega)
  have q0:ldL [i64 a,i64 p,i64 h] 0 none=some (i64 a):=rfl
  have q1:ldL [i64 a,i64 p,i64 h] 1 none=some (i64 p):=rfl
  have q2:ldL [i64 a,i64 p,i64 h] 2 none=some (i64 h):=rfl
  have st0:=qrk (o:=0) (cs:=[i64 (a+1)]) (new:=[i64 (a+1),i64 p,i64 h]) hs rfl rfl
  have st1:=qrk (o:=1) (cs:=[i64 (p+1)]) (new:=[i64 a,i64 (p+1),i64 h]) hs rfl rfl
  have st2:=qrk (o:=2) (cs:=[i64 (h+1)]) (new:=[i64 a,i64 p,i64 (h+1)]) hs rfl rfl
  unfold s201 s201_5 s201_4 s201_3 s201_2 s201_1
  generalize s201_0 (qag CP n E) n=G at fin⊢
  have fF:∀{b:Bool} {z:Int},b=false->Cm b 1 z z:=fun h=>h▸Cm.refl _ _
  have fT:∀{b:Bool} {z:Int},0<=z->b=true->Cm b 1 z (z+1):=fun h0 h=>h▸Cm.one h0
  by_cases hi:t.i=id
  ·by_cases k3:t.k=3
   ·obtain⟨s',e1,e2⟩:=fin (a+1) p h _ rfl (fT ba.1 (by simp[isA,hi,k3])) (fF (by simp[isP,k3])) (fF (by simp[isH,k3]))
    refine⟨s',?_,e2⟩
    simp -implicitDefEqProofs only[hi,k3,qd3,zaF,zbj,ldP hc,q0,wa,cni,st0,e1,qah,qba,qcJ,qad,qaf,qay,zaj,decide_true,decide_false,qaa,cond_true,cond_false,qaj,zab,zaa,qbv]
   ·by_cases k4:t.k=4
    ·obtain⟨s',e1,e2⟩:=fin a (p+1) h _ rfl (fF (by simp[isA,k3])) (fT bp.1 (by simp[isP,hi,k4])) (fF (by simp[isH,k4]))
     refine⟨s',?_,e2⟩
     simp -implicitDefEqProofs only[hi,k4,qd3,zaF,zbj,ldP hc,q1,wp,cni,st1,e1,qah,qba,qcJ,qad,qaf,qay,zaj,decide_true,decide_false,qaa,cond_true,cond_false,qaj,zab,zaa,qbv]
    ·by_cases k18:t.k=18
     ·obtain⟨s',e1,e2⟩:=fin a (p+1) h _ rfl (fF (by simp[isA,k3])) (fT bp.1 (by simp[isP,hi,k18])) (fF (by simp[isH,k18]))
      refine⟨s',?_,e2⟩
      simp -implicitDefEqProofs only[hi,k18,qd3,zaF,zbj,ldP hc,q1,wp,cni,st1,e1,qah,qba,qcJ,qad,qaf,qay,zaj,decide_true,decide_false,qaa,cond_true,cond_false,qaj,zab,zaa,qbv]
     ·by_cases k16:t.k=16
      ·obtain⟨s',e1,e2⟩:=fin a p (h+1) _ rfl (fF (by simp[isA,k3])) (fF (by simp[isP,k4,k18])) (fT bh.1 (by simp[isH,hi,k16]))
       refine⟨s',?_,e2⟩
       simp -implicitDefEqProofs only[hi,k16,qd3,zaF,zbj,ldP hc,q2,wh,cni,st2,e1,qah,qba,qcJ,qad,qaf,qay,zaj,decide_true,decide_false,qaa,cond_true,cond_false,qaj,zab,zaa,qbv]
      ·obtain⟨s',e1,e2⟩:=fin a p h s same (fF (by simp[isA,k3])) (fF (by simp[isP,k4,k18])) (fF (by simp[isH,k16]))
       refine⟨s',?_,e2⟩
       simp -implicitDefEqProofs only[hi,k3,k4,k18,k16,e1,qah,qba,qcJ,qad,qaf,decide_true,decide_false,qaa,cond_true,cond_false,qaj,zab,zaa]
  ·obtain⟨s',e1,e2⟩:=fin a p h s same (fF (by simp[isA,hi])) (fF (by simp[isP,hi])) (fF (by simp[isH,hi]))
   refine⟨s',?_,e2⟩
   simp -implicitDefEqProofs only[hi,e1,qah,qba,qcJ,qad,qaf,decide_false,qaa,cond_false,qaj,zab,zaa]
end Go.AI.Tryz
namespace Go.AI.Tryz
def qqi (r:Int)(x:Sc)(t:Tm):Option Tm:=if r=14 then qfT x t else if r=15 then qnL x t else if r=16 then qiw x t else none
theorem qlX {b:Bool}{n:Nat}{z:Int}(h:Cm b n 0 z):decide (z=0)=!b/\decide (0<z)=b:=by
 have h1:=h.ge
 have h2:=h.pos
 cases b with
 |true=>
  have:0<z:=h2.2 (.inr rfl)
  exact⟨decide_eq_false (by omega),decide_eq_true this⟩
 |false=>
  have:¬0<z:=fun q=>by
   rcases h2.1 q with g|g
   ·omega
   ·cases g
  exact⟨decide_eq_true (by omega),decide_eq_false this⟩
theorem qtW {x:Sc}{n m:Int}{u:Tm}(h:Rd x (.new n m u))(r:Int):PC CP 179 [pv x,u8 r,(Tm.new n m u).v] (qcM (qqi r x (.new n m u))):=by
 have hku:=h.kid (j:=0) (u:=u) rfl
 have hus:=qa3 (t:=.new n m u) (u:=u) (by simp[Tm.ks])
 have hle:=h.len
 let id:Int:=Int.ofNat x.ids.length+1
 have eU:qfT x (.new n m u)=if okU (qe8 id u) then some (woF id (.num m n) u) else none:=rfl
 have eR:qnL x (.new n m u)=if qro (qe8 id u) then some (woF id (.num m n) u) else none:=rfl
 have eW:qiw x (.new n m u)=if qrp (qe8 id u) then some (woF id (.num m n) u) else none:=rfl
 have h0:(0:Int)<=id:=by show(0:Int)<=Int.ofNat _+1;simp only[zaf];omega
 refine PC.of2 (cf:=cf179) (np:=3) (args':=[pv x,u8 r,(Tm.new n m u).v]) (by kernel_rfl) (by kernel_rfl) rfl (by simp only[zap,qal];rfl) (by simp only[zam,qai];rfl) (fun lo=>qaR lo _)
  (((qm8 id u.size (by omega)).and ((qk1 m n).and (qss id h0 (.num m n) u.size u _ (zan _) hku.nd))).mono fun N ⟨c201,c176,c202⟩ E s=>?_)
 obtain⟨s1,e1,a,p,hh,es,m1,m2,m3⟩:=c201 u (zan _) E (qak s (.cells [i64 0,i64 0,i64 0])) s.next s.heap 0 0 0 rfl (by omega) (by omega) (by omega)
 have d1:=qlX m1
 have d2:=qlX m2
 have d3:=qlX m3
 have eN:qe8 id u=⟨u.any (isA id) 0,u.any (isP id) 0,u.any (isH id) 0⟩:=rfl
 have hw:qbb .i64 (Int.ofNat x.sn.length+1)=id:=by
  rw[qp7]
  exact qbt (by simp only[zaf];omega) (by simp only[zaf];omega)
 have hc:qas (qag CP N E).E s1 s.next=some [i64 a,i64 p,i64 hh]:=by rw[es];exact qaX rfl
 have q0:ldL [i64 a,i64 p,i64 hh] 0 none=some (i64 a):=rfl
 have q1:ldL [i64 a,i64 p,i64 hh] 1 none=some (i64 p):=rfl
 have q2:ldL [i64 a,i64 p,i64 hh] 2 none=some (i64 hh):=rfl
 obtain⟨i0,l0⟩:=qb5 (n:=N) (E:=E) (l:=[u]) (u:=u) rfl
 have hbd:bd [i64 0,i64 0,i64 0] []=some (.agg [i64 0,i64 0,i64 0]):=rfl
 have hc3:zA.cells (some 3) (.agg [i64 0,i64 0,i64 0])=some [i64 0,i64 0,i64 0]:=rfl
 have haw:[i64 0,i64 0,i64 0].all qaY=true:=rfl
 refine⟨qiC (qqi r x (.new n m u)),s1,(s179_eq _ _ _ _ _ _).trans ?_,qck _⟩
 unfold s179 s179_5 s179_4 s179_3 s179_2 s179_1 s179_0 qqi
 rw[eU,eR,eW,eN]
 unfold okU qro qrp
 simp only[]
 by_cases r14:r=14
 ·simp -implicitDefEqProofs only[pvc,bs0,hw,hbd,hc3,haw,i0,l0,e1,r14,ldP hc,q0,q1,q2,d1,d2,d3,c176,c202,if_true,qah,qaS,qbX,qd6,qbj,qau,qad,qaf,qay,zaj,decide_true,decide_false,zal,qaa,cond_true,cond_false,qaj,zab,zaa,qab,qam,qbo,qbd,cnd,Tm.n_mk,Tm.m_mk,Tm.ks_mk]
  cases u.any (isA id) 0<;>cases u.any (isP id) 0<;>cases u.any (isH id) 0<;>simp -implicitDefEqProofs only[bdZ,z5c,z5o,z5l,qa1,qaA,zat,zaS,zau,if_true,if_false,zai,zak,zal,cond_true,cond_false,zaa]
 ·by_cases r15:r=15
  ·simp -implicitDefEqProofs only[pvc,bs0,hw,hbd,hc3,haw,i0,l0,e1,r15,ldP hc,q0,q1,q2,d1,d2,d3,c176,c202,if_true,if_false,qah,qaS,qbX,qd6,qbj,qau,qad,qaf,qaC,qay,zaj,decide_true,decide_false,zal,qaa,cond_true,cond_false,qaj,zab,zaa,qab,qam,qbo,qbd,cnd,Tm.n_mk,Tm.m_mk,Tm.ks_mk]
   cases u.any (isA id) 0<;>cases u.any (isP id) 0<;>cases u.any (isH id) 0<;>simp -implicitDefEqProofs only[bdZ,z5c,z5o,z5l,qa1,qaA,zat,zaS,zau,if_true,if_false,zai,zak,zal,cond_true,cond_false,zaa]
  ·by_cases r16:r=16
   ·simp -implicitDefEqProofs only[pvc,bs0,hw,hbd,hc3,haw,i0,l0,e1,r16,ldP hc,q0,q1,q2,d1,d2,d3,c176,c202,if_true,if_false,qah,qaS,qbX,qd6,qbj,qau,qad,qaf,qaC,qay,zaj,decide_true,decide_false,zal,qaa,cond_true,cond_false,qaj,zab,zaa,qab,qam,qbo,qbd,cnd,Tm.n_mk,Tm.m_mk,Tm.ks_mk]
    cases u.any (isA id) 0<;>cases u.any (isP id) 0<;>cases u.any (isH id) 0<;>simp -implicitDefEqProofs only[bdZ,z5c,z5o,z5l,qa1,qaA,zat,zaS,zau,if_true,if_false,zai,zak,zal,cond_true,cond_false,zaa]
   ·simp -implicitDefEqProofs only[pvc,bs0,hw,hbd,hc3,haw,i0,l0,e1,r14,r15,r16,bdZ,z5c,z5o,z5l,qaA,if_false,qah,qbj,qad,qaf,qay,decide_false,zal,qaa,cond_true,cond_false,qaj,zab,zaa,qab,qam,qbo,qbd,cnd,Tm.ks_mk]
end Go.AI.Tryz
namespace Go.AI.Tryz
def qwp (r:Int)(x:Sc)(t:Tm):Option Tm:=if r=2 then asR t else if r=3 then qhT x t else none
def qwq (r:Int)(t:Tm):Option Tm:=if r=13 then qeM t else none
def qwr (r:Int)(t:Tm):Option Tm:=if r=18 then qeN t else if r=19 then qhY t else none
def qws (r:Int)(x:Sc)(t:Tm):Option Tm:=if r=20 then qdF x t else none
def qwt (r:Int)(t:Tm):Option Tm:=if r=21 then qdE t else if r=22 then qep t else none
def ruK (r:Int)(x:Sc)(t:Tm):Option Tm:=
 if t.k=5 then qvO r x t else if t.k=6 then qwp r x t else if t.k=8 then qwo r x t else if t.k=7 then qrF r x t else if t.k=9 then qwq r t else if t.k=10 then qqi r x t
 else if t.k=11 then qwr r t else if t.k=18 then qws r x t else if t.k=13 then qwt r t else none
theorem qvR (x:Sc)(t:Tm):∀i,i<22->qbm i x t=ruK (Int.ofNat (i+1)) x t:=by
 have hk:t.k=5\/t.k=6\/t.k=8\/t.k=7\/t.k=9\/t.k=10\/t.k=11\/t.k=18\/t.k=13\/(t.k≠5/\t.k≠6/\t.k≠8/\t.k≠7/\t.k≠9/\t.k≠10/\t.k≠11/\t.k≠18/\t.k≠13):=by omega
 intro i hi
 have hi2:i=0\/i=1\/i=2\/i=3\/i=4\/i=5\/i=6\/i=7\/i=8\/i=9\/i=10\/i=11\/i=12\/i=13\/i=14\/i=15\/i=16\/i=17\/i=18\/i=19\/i=20\/i=21:=by omega
 rcases hi2 with rfl|rfl|rfl|rfl|rfl|rfl|rfl|rfl|rfl|rfl|rfl|rfl|rfl|rfl|rfl|rfl|rfl|rfl|rfl|rfl|rfl|rfl<;>rcases hk with h|h|h|h|h|h|h|h|h|h<;>
  simp[qbm,ruK,qvO,qwp,qwo,qrF,qwq,qqi,qwr,qws,qwt,opR,asR,qhT,qcU,qhU,ifR,qhV,qnJ,qhW,qhX,qfP,qfQ,qeM,qfT,qnL,qiw,clR,qdO,qeN,qhY,qdF,qdE,qep,h]
theorem qlY {x:Sc}{t:Tm}{r:Int}{o:Option Tm}(h:Ev fun N=>∀E s,∃v,s121 (qag CP N E) N (pv x) (u8 r) t.v s=some (v,s)/\qaF v=qcM o):PC CP 121 [pv x,u8 r,t.v] (qcM o):=
 PC.of2 (cf:=cf121) (np:=3) (args':=[pv x,u8 r,t.v]) (by kernel_rfl) (by kernel_rfl) rfl (by simp only[zap,qal];rfl) (by simp only[zam,qai];rfl) (fun lo=>qaR lo _)
  (h.mono fun N h E s=>by
   obtain⟨v,h1,h2⟩:=h E s
   exact⟨v,s,(s121_eq _ _ _ _ _ _).trans h1,h2⟩)
theorem qgx {x:Sc}{t:Tm}{r:Int}{o:Option Tm}(h5:t.k=5->PC CP 174 [u8 r,t.v] (qcM o))(h8:t.k=8->PC CP 177 [pv x,u8 r,t.v] (qcM o))(h7:t.k=7->PC CP 178 [pv x,u8 r,t.v] (qcM o))(h10:t.k=10->PC CP 179 [pv x,u8 r,t.v] (qcM o))
  (hk:t.k=5\/t.k=8\/t.k=7\/t.k=10):PC CP 121 [pv x,u8 r,t.v] (qcM o):=by
 refine qlY ?_
 rcases hk with h|h|h|h
 ·refine(h5 h).mono fun N c E s=>⟨qcM o,?_,qaN o⟩
  unfold s121 s121_13 s121_12 s121_11 s121_10 s121_9 s121_8 s121_7 s121_6 s121_5 s121_4 s121_3 s121_2 s121_1 s121_0
  simp -implicitDefEqProofs only[pvc,qb2,h,c,qah,qba,qbX,qbj,qau,qad,qaf,zaj,decide_true,decide_false,qaa,cond_true,cond_false,qaj,zab,zaa,qab,qan,qaw,qax,qaB]
 ·refine(h8 h).mono fun N c E s=>⟨qcM o,?_,qaN o⟩
  unfold s121 s121_13 s121_12 s121_11 s121_10 s121_9 s121_8 s121_7 s121_6 s121_5 s121_4 s121_3 s121_2 s121_1 s121_0
  simp -implicitDefEqProofs only[pvc,qjy,qb2,h,c,qah,qba,qbX,qbj,qau,qad,qaf,zaj,decide_true,decide_false,qaa,cond_true,cond_false,qaj,zab,zaa,qab,qan,qaw,qax,qaB]
 ·refine(h7 h).mono fun N c E s=>⟨qcM o,?_,qaN o⟩
  unfold s121 s121_13 s121_12 s121_11 s121_10 s121_9 s121_8 s121_7 s121_6 s121_5 s121_4 s121_3 s121_2 s121_1 s121_0
  simp -implicitDefEqProofs only[pvc,qjy,qb2,h,c,qah,qba,qbX,qbj,qau,qad,qaf,zaj,decide_true,decide_false,qaa,cond_true,cond_false,qaj,zab,zaa,qab,qan,qaw,qax,qaB]
 ·refine(h10 h).mono fun N c E s=>⟨qcM o,?_,qaN o⟩
  unfold s121 s121_13 s121_12 s121_11 s121_10 s121_9 s121_8 s121_7 s121_6 s121_5 s121_4 s121_3 s121_2 s121_1 s121_0
  simp -implicitDefEqProofs only[pvc,qjy,qb2,h,c,qah,qba,qbX,qbj,qau,qad,qaf,zaj,decide_true,decide_false,qaa,cond_true,cond_false,qaj,zab,zaa,qab,qan,qaw,qax,qaB]
theorem qtX {x:Sc}{t:Tm}{r:Int}(hk:t.k≠5/\t.k≠6/\t.k≠8/\t.k≠7/\t.k≠9/\t.k≠10/\t.k≠11/\t.k≠18/\t.k≠13):PC CP 121 [pv x,u8 r,t.v] (qcM none):=by
 refine qlY (ev0.mono fun N _ E s=>⟨qiC none,?_,qck _⟩)
 unfold s121 s121_13 s121_12 s121_11 s121_10 s121_9 s121_8 s121_7 s121_6 s121_5 s121_4 s121_3 s121_2 s121_1 s121_0
 simp -implicitDefEqProofs only[pvc,hk,bdZ,z5c,z5o,z5l,qaA,qah,qaS,qba,qbX,qbj,qad,qaf,decide_false,qaa,cond_false,qaj,zab,zaa]
theorem qtY {x:Sc}{n:Int}{u:Tm}(h:Rd x (.az n u))(r:Int):PC CP 121 [pv x,u8 r,(Tm.az n u).v] (qcM (qwp r x (.az n u))):=by
 have hs:=h.nd.gd.sz (by simp[Tm.k]) (by simp[Tm.k])
 rw[qeF] at hs
 simp only[zag,isSize_iff] at hs
 have hn0:n≠0:=by omega
 have e2:asR (.az n u)=if qaI u then some (.num (u.n.tmod n) n) else none:=rfl
 have e3:qhT x (.az n u)=if !qaI u&&decide ((szF x u).1=n) then some u else none:=rfl
 refine qlY (((qbU u).and ((qk1 (u.n.tmod n) n).and ((h.sub (j:=0) (u:=u) rfl (by simp[Tm.k])).psize (quj hs.1)))).mono fun N ⟨c1,c2,c3⟩ E s=>⟨qiC _,?_,qck _⟩)
 obtain⟨i0,l0⟩:=qb5 (n:=N) (E:=E) (l:=[u]) (u:=u) rfl
 have f0:=fun s=>(kf (n:=N) (E:=E) (l:=[u]) (j:=0) (u:=u) rfl s).2.1
 unfold s121 s121_13 s121_12 s121_11 s121_10 s121_9 s121_8 s121_7 s121_6 s121_5 s121_4 s121_3 s121_2 s121_1 s121_0 qwp
 rw[e2,e3]
 generalize (szF x u).1=z at c3⊢
 by_cases r2:r=2
 ·by_cases q:qaI u=true
  ·simp -implicitDefEqProofs only[pvc,i0,l0,f0,r2,c1,c2,q,qek _ _ _ hn0,qb2,qa1,if_true,qah,qba,qbX,qbj,qau,qad,qaf,zaj,decide_true,decide_false,zak,qaa,cond_true,cond_false,qaj,zab,zaa,qab,Tm.k_mk,Tm.n_mk,Tm.ks_mk]
  ·simp only[zaR] at q
   simp -implicitDefEqProofs only[pvc,i0,l0,f0,r2,c1,q,bdZ,z5c,z5o,z5l,qaA,if_true,if_false,zai,qah,qaS,qba,qbX,qbj,qad,qaf,zaj,decide_true,decide_false,zal,qaa,cond_true,cond_false,qaj,zab,zaa,qab,Tm.k_mk,Tm.n_mk,Tm.ks_mk]
 ·by_cases r3:r=3
  ·by_cases q:qaI u=true
   ·simp -implicitDefEqProofs only[pvc,i0,l0,r3,c1,q,bdZ,z5c,z5o,z5l,qaA,zau,if_true,if_false,zai,qah,qaS,qba,qbX,qbj,qau,qad,qaf,zaj,decide_true,decide_false,zak,qaa,cond_true,cond_false,qaj,zab,zaa,qab,qam,Tm.k_mk,Tm.n_mk,Tm.ks_mk]
   ·simp only[zaR] at q
    by_cases qz:z=n<;>simp -implicitDefEqProofs only[pvc,qjy,i0,l0,r3,c1,c3,q,qz,qb2,bdZ,z5c,z5o,z5l,qa1,qaA,zaS,zax,if_true,if_false,zai,qah,qba,qbX,qbj,qau,qad,qaf,zaj,decide_true,decide_false,zal,qaa,cond_true,cond_false,qaj,zab,zaa,qab,qam,Tm.k_mk,Tm.n_mk,Tm.ks_mk]
  ·simp -implicitDefEqProofs only[pvc,r2,r3,bdZ,z5c,z5o,z5l,qaA,if_false,qah,qaS,qba,qbj,qad,qaf,zaj,decide_true,decide_false,qaa,cond_true,cond_false,qaj,zab,zaa,Tm.k_mk,Tm.ks_mk]
theorem qtZ {x:Sc}{c b:Tm}(r:Int):PC CP 121 [pv x,u8 r,(Tm.whl c b).v] (qcM (qwq r (.whl c b))):=by
 have e:qeM (.whl c b)=if qaI c&&decide (c.n=0) then some (.num 0 1) else none:=rfl
 refine qlY (((qbU c).and (qk1 0 1)).mono fun N ⟨c1,c2⟩ E s=>⟨qiC _,?_,qck _⟩)
 obtain⟨i0,l0⟩:=qb5 (n:=N) (E:=E) (l:=[c,b]) (u:=c) rfl
 have f0:=fun s=>(kf (n:=N) (E:=E) (l:=[c,b]) (j:=0) (u:=c) rfl s).2.1
 unfold s121 s121_13 s121_12 s121_11 s121_10 s121_9 s121_8 s121_7 s121_6 s121_5 s121_4 s121_3 s121_2 s121_1 s121_0 qwq
 rw[e]
 by_cases r13:r=13
 ·by_cases q:qaI c=true
  ·by_cases q0:c.n=0<;>simp -implicitDefEqProofs only[pvc,i0,l0,f0,r13,c1,c2,q,q0,qb2,bdZ,z5c,z5o,z5l,qa1,qaA,zat,zaS,if_true,if_false,zai,qah,qba,qbj,qau,qad,qaf,zaj,decide_true,decide_false,qaa,cond_true,cond_false,qaj,zab,zaa,qab,Tm.k_mk,Tm.ks_mk]
  ·simp only[zaR] at q
   simp -implicitDefEqProofs only[pvc,i0,l0,f0,r13,c1,q,bdZ,z5c,z5o,z5l,qaA,zau,if_true,if_false,zai,qah,qaS,qba,qbj,qad,qaf,zaj,decide_true,decide_false,qaa,cond_true,cond_false,qaj,zab,zaa,qab,Tm.k_mk,Tm.ks_mk]
 ·simp -implicitDefEqProofs only[pvc,r13,bdZ,z5c,z5o,z5l,qaA,if_false,qah,qaS,qba,qbX,qbj,qad,qaf,zaj,decide_true,decide_false,qaa,cond_true,cond_false,qaj,zab,zaa,Tm.k_mk,Tm.n_mk,Tm.ks_mk]
theorem qt0 {x:Sc}{u w:Tm}(h:Rd x (.lbl u w))(r:Int):PC CP 121 [pv x,u8 r,(Tm.lbl u w).v] (qcM (qwr r (.lbl u w))):=by
 have hku:=h.kid (j:=0) (u:=u) rfl
 have hle:=hku.len
 have e1:qeN (.lbl u w)=if !u.any qcw 0 then some (u.chg qcK 0) else none:=rfl
 have e2:qhY (.lbl u w)=if decide (u.k=12)&&decide (u.n=0) then some w else none:=rfl
 refine qlY (((qqe u.size u _ 0 (zan _) hku.nd (by omega) (by omega)).and (qqh u.size u 0 (zan _) hku.nd.ok (by omega) (by omega))).mono fun N ⟨c1,c2⟩ E s=>⟨qiC _,?_,qck _⟩)
 obtain⟨i0,l0⟩:=qb5 (n:=N) (E:=E) (l:=[u,w]) (u:=u) rfl
 obtain⟨i1,l1⟩:=qdt (n:=N) (E:=E) (l:=[u,w]) (u:=w) rfl
 have f0:=fun s=>(kf (n:=N) (E:=E) (l:=[u,w]) (j:=0) (u:=u) rfl s).1
 have f1:=fun s=>(kf (n:=N) (E:=E) (l:=[u,w]) (j:=0) (u:=u) rfl s).2.1
 unfold s121 s121_13 s121_12 s121_11 s121_10 s121_9 s121_8 s121_7 s121_6 s121_5 s121_4 s121_3 s121_2 s121_1 s121_0 qwr
 rw[e1,e2]
 by_cases r18:r=18
 ·by_cases q:u.any qcw 0=true
  ·simp -implicitDefEqProofs only[pvc,i0,l0,r18,c1,q,bdZ,z5c,z5o,z5l,qaA,if_true,if_false,zai,qah,qaS,qba,qbj,qad,qaf,zaj,decide_true,decide_false,zak,qaa,cond_true,cond_false,qaj,zab,zaa,qab,qam,Tm.k_mk,Tm.ks_mk]
  ·simp only[zaR] at q
   simp -implicitDefEqProofs only[pvc,i0,l0,r18,c1,c2,q,qb2,qa1,if_true,qah,qba,qbj,qau,qad,qaf,zaj,decide_true,decide_false,zal,qaa,cond_true,cond_false,qaj,zab,zaa,qab,qam,Tm.k_mk,Tm.ks_mk]
 ·by_cases r19:r=19
  ·by_cases k12:u.k=12
   ·by_cases q0:u.n=0<;>simp -implicitDefEqProofs only[pvc,i0,i1,l1,f0,f1,r19,k12,q0,qb2,bdZ,z5c,z5o,z5l,qa1,qaA,zat,zaS,if_true,if_false,zai,qah,qba,qbj,qau,qad,qaf,zaj,decide_true,decide_false,qaa,cond_true,cond_false,qaj,zab,zaa,qab,Tm.k_mk,Tm.ks_mk]
   ·simp -implicitDefEqProofs only[pvc,i0,i1,l1,f0,f1,r19,k12,bdZ,z5c,z5o,z5l,qaA,zau,if_true,if_false,zai,qah,qaS,qba,qbj,qau,qad,qaf,zaj,decide_true,decide_false,qaa,cond_true,cond_false,qaj,zab,zaa,qab,Tm.k_mk,Tm.ks_mk]
  ·simp -implicitDefEqProofs only[pvc,r18,r19,bdZ,z5c,z5o,z5l,qaA,if_false,qah,qaS,qba,qbX,qbj,qad,qaf,zaj,decide_true,decide_false,qaa,cond_true,cond_false,qaj,zab,zaa,Tm.k_mk,Tm.n_mk,Tm.ks_mk]
theorem qt1 {x:Sc}{n i:Int}{u:Tm}(h:Rd x (.ntc n i u))(r:Int):PC CP 121 [pv x,u8 r,(Tm.ntc n i u).v] (qcM (qws r x (.ntc n i u))):=by
 have hku:=h.kid (j:=0) (u:=u) rfl
 have hle:=hku.len
 have e:qdF x (.ntc n i u)=if !u.any (qd1 x.top) 0 then some u else none:=rfl
 refine qlY ((qqf x.top u.size u 0 (zan _) (by omega)).mono fun N c1 E s=>⟨qiC _,?_,qck _⟩)
 obtain⟨i0,l0⟩:=qb5 (n:=N) (E:=E) (l:=[u]) (u:=u) rfl
 unfold s121 s121_13 s121_12 s121_11 s121_10 s121_9 s121_8 s121_7 s121_6 s121_5 s121_4 s121_3 s121_2 s121_1 s121_0 qws
 rw[e]
 by_cases r20:r=20
 ·by_cases q:u.any (qd1 x.top) 0=true
  ·simp -implicitDefEqProofs only[pvc,bs1,i0,l0,r20,c1,q,bdZ,z5c,z5o,z5l,qaA,if_true,if_false,zai,qah,qaS,qba,qbj,qau,qad,qaf,zaj,decide_true,decide_false,zak,qaa,cond_true,cond_false,qaj,zab,zaa,qab,Tm.k_mk,Tm.ks_mk]
  ·simp only[zaR] at q
   simp -implicitDefEqProofs only[pvc,bs1,i0,l0,r20,c1,q,qb2,qa1,if_true,qah,qba,qbj,qau,qad,qaf,zaj,decide_true,decide_false,zal,qaa,cond_true,cond_false,qaj,zab,zaa,qab,Tm.k_mk,Tm.ks_mk]
 ·simp -implicitDefEqProofs only[pvc,r20,bdZ,z5c,z5o,z5l,qaA,if_false,qah,qaS,qba,qbX,qbj,qad,qaf,zaj,decide_true,decide_false,qaa,cond_true,cond_false,qaj,zab,zaa,Tm.k_mk,Tm.n_mk,Tm.ks_mk]
theorem qt2 {x:Sc}{a b:Tm}(h:Rd x (.cho a b))(r:Int):PC CP 121 [pv x,u8 r,(Tm.cho a b).v] (qcM (qwt r (.cho a b))):=by
 have e1:qdE (.cho a b)=if decide (a=b) then some a else none:=rfl
 have e2:qep (.cho a b)=if a.k=14 then some b else if b.k=14 then some a else none:=rfl
 refine qlY ((qo1 a b (h.nd.ok.kids a (by simp[Tm.ks]))).mono fun N c1 E s=>⟨qiC _,?_,qck _⟩)
 obtain⟨i0,l0⟩:=qb5 (n:=N) (E:=E) (l:=[a,b]) (u:=a) rfl
 obtain⟨i1,l1⟩:=qdt (n:=N) (E:=E) (l:=[a,b]) (u:=b) rfl
 have f0:=fun s=>(kf (n:=N) (E:=E) (l:=[a,b]) (j:=0) (u:=a) rfl s).1
 have f1:=fun s=>(kf (n:=N) (E:=E) (l:=[a,b]) (j:=1) (u:=b) rfl s).1
 unfold s121 s121_13 s121_12 s121_11 s121_10 s121_9 s121_8 s121_7 s121_6 s121_5 s121_4 s121_3 s121_2 s121_1 s121_0 qwt
 rw[e1,e2]
 by_cases r21:r=21
 ·by_cases q:a=b
  ·rw[decide_eq_true q] at c1⊢
   simp -implicitDefEqProofs only[pvc,i0,l0,i1,l1,f0,f1,r21,c1,qb2,qa1,if_true,qah,qba,qbj,qau,qad,qaf,zaj,decide_true,decide_false,qaa,cond_true,cond_false,qaj,zab,zaa,qab,Tm.k_mk,Tm.ks_mk]
  ·rw[decide_eq_false q] at c1⊢
   simp -implicitDefEqProofs only[pvc,i0,l0,i1,l1,f0,f1,r21,c1,bdZ,z5c,z5o,z5l,qaA,if_true,if_false,zai,qah,qaS,qba,qbj,qau,qad,qaf,zaj,decide_true,decide_false,qaa,cond_true,cond_false,qaj,zab,zaa,qab,Tm.k_mk,Tm.ks_mk]
 ·by_cases r22:r=22
  ·by_cases qa:a.k=14
   ·simp -implicitDefEqProofs only[pvc,i0,l0,i1,l1,f0,f1,r22,qa,qb2,qa1,if_true,if_false,qah,qba,qbj,qau,qad,qaf,zaj,decide_true,decide_false,qaa,cond_true,cond_false,qaj,zab,zaa,qab,Tm.k_mk,Tm.ks_mk]
   ·by_cases qb:b.k=14<;>simp -implicitDefEqProofs only[pvc,i0,l0,i1,l1,f0,f1,r22,qa,qb,qb2,bdZ,z5c,z5o,z5l,qa1,qaA,if_true,if_false,qah,qba,qbj,qau,qad,qaf,zaj,decide_true,decide_false,qaa,cond_true,cond_false,qaj,zab,zaa,qab,Tm.k_mk,Tm.ks_mk]
  ·simp -implicitDefEqProofs only[pvc,i0,i1,f0,f1,r21,r22,bdZ,z5c,z5o,z5l,qaA,if_false,qah,qaS,qba,qbX,qbj,qad,qaf,zaj,decide_true,decide_false,qaa,cond_true,cond_false,qaj,zab,zaa,qab,Tm.k_mk,Tm.n_mk,Tm.ks_mk]
theorem qvS {x:Sc}{t:Tm}(h:Rd x t)(i:Nat)(hi:i<22):PC CP 121 [pv x,u8 (.ofNat (i+1)),t.v] (qcM (qbm i x t)):=by
 rw[qvR x t i hi]
 generalize Int.ofNat (i+1)=r
 cases h.nd.sh with
 |op n m a b=>exact qgx (fun _=>qvP h.nd r) (fun q=>by simp[Tm.k] at q) (fun q=>by simp[Tm.k] at q) (fun q=>by simp[Tm.k] at q) (by simp[Tm.k])
 |ite c a b=>exact qgx (fun q=>by simp[Tm.k] at q) (fun _=>qvQ h r) (fun q=>by simp[Tm.k] at q) (fun q=>by simp[Tm.k] at q) (by simp[Tm.k])
 |seq a b=>exact qgx (fun q=>by simp[Tm.k] at q) (fun q=>by simp[Tm.k] at q) (fun _=>qtV h r) (fun q=>by simp[Tm.k] at q) (by simp[Tm.k])
 |new n m u=>exact qgx (fun q=>by simp[Tm.k] at q) (fun q=>by simp[Tm.k] at q) (fun q=>by simp[Tm.k] at q) (fun _=>qtW h r) (by simp[Tm.k])
 |az n u=>exact qtY h r
 |whl c b=>exact qtZ r
 |lbl u w=>exact qt0 h r
 |ntc n i u=>exact qt1 h r
 |cho a b=>exact qt2 h r
 |_=>exact qtX (by simp[Tm.k])
end Go.AI.Tryz
namespace Go.AI.Tryz
def LG (s:ASt)(tok:Nat)(y:List Rw):Prop:=y≠[]->tok<s.ntok/\qar s.toks tok=some (y.length,2)
structure Vs (s0:ASt)(k0:Nat)(y0:List Rw)(s:ASt)(k:Nat)(y:List Rw):Prop where
 nt:s0.ntok<=s.ntok
 ag:∀t,t<s0.ntok->(y0≠[]->t≠k0)->qar s.toks t=qar s0.toks t
 tk:y≠[]->(y0≠[]/\k=k0)\/s0.ntok<=k
 lg:LG s k y
theorem Vs.refl {s:ASt}{k:Nat}{y:List Rw}(h:LG s k y):Vs s k y s k y:=⟨zan _,fun _ _ _=>rfl,fun h=> .inl ⟨h,rfl⟩,h⟩
theorem Vs.trans {s0 s1 s2:ASt}{k0 k1 k2:Nat}{y0 y1 y2:List Rw}(h:Vs s0 k0 y0 s1 k1 y1)(g:Vs s1 k1 y1 s2 k2 y2):Vs s0 k0 y0 s2 k2 y2:=by
 have h1:=h.nt
 have h2:=g.nt
 refine⟨by omega,fun t ht hn=>?_,fun hy=>?_,g.lg⟩
 ·rw[g.ag t (by omega) fun q=>?_,h.ag t ht hn]
  rcases h.tk q with⟨q1,q2⟩|q1
  ·rw[q2];exact hn q1
  ·omega
 ·rcases g.tk hy with⟨q1,q2⟩|q1
  ·rcases h.tk q1 with⟨q3,q4⟩|q3
   ·exact .inl ⟨q3,by rw[q2,q4]⟩
   ·exact .inr (by omega)
  ·exact .inr (by omega)
theorem Vs.heap {s0 s:ASt}{k0 k:Nat}{y0 y:List Rw}(h:Vs s0 k0 y0 s k y)(H:qaU):Vs s0 k0 y0 {s with heap:=H} k y:=⟨h.nt,h.ag,h.tk,h.lg⟩
theorem qrH (e:Env){y:List Rw}{tok:Nat}{s:ASt}(h:LG s tok y)(p:Rw)(hb:y.length<=100000000):
  ∃tok' s',ap e 2 16 (qrv tok y) (.sl 1 (rwC p) .full) s=some (qrv tok' (y++[p]),s')/\s'.heap=s.heap/\s'.next=s.next/\Vs s tok y s' tok' (y++[p]):=by
 cases y with
 |nil=>
  refine⟨s.ntok,_,qg9 e (sz:=2) (b:=16) (new:=rwC p) s rfl rfl (by omega),rfl,rfl,Nat.le_succ _,fun t ht _=>?_,fun _=> .inr (zan _),fun _=>⟨Nat.lt_succ_self _,?_⟩⟩
  ·show qar ((s.ntok,1,2)::s.toks) t=_
   rw[qao,if_neg (by omega)]
  ·show qar ((s.ntok,1,2)::s.toks) s.ntok=_
   rw[qao,if_pos rfl]
   rfl
 |cons a r=>
  obtain⟨hlt,ht⟩:=h (by simp)
  obtain⟨ts,e1,e2⟩:=qpp e (sz:=2) (b:=16) (n:=r.length+1) (t:=tok) (cs:=qaQ rwC (a::r)) (new:=rwC p) (y:=.sl 1 (rwC p) .full) ht rfl rfl (by simp only[zar] at hb;omega)
  refine⟨tok,{s with toks:=ts},?_,rfl,rfl,zan _,fun t _ hn=>?_,fun _=> .inl ⟨by simp,rfl⟩,fun _=>⟨hlt,?_⟩⟩
  ·have hl:qrv tok (a::r++[p])=.sl (r.length+1+1) (qaQ rwC (a::r)++rwC p) (.own tok):=by
    show zA.sl ((r++[p]).length+1) (qaQ rwC (a::(r++[p]))) (.own tok)=_
    have:=qhd rwC (a::r) p
    rw[zaP] at this
    rw[this,zay]
    rfl
   rw[hl]
   exact e1
  ·show qar ts t=_
   rw[e2,if_neg (hn (by simp))]
  ·show qar ts tok=_
   rw[e2,if_pos rfl]
   simp only[zay,zar,zaC]
abbrev VC (c:Nat)(w:Rw)(dn:Bool)(tok:Nat)(y:List Rw):List zA:=[i64 (.ofNat c),u8 w.1,i64 w.2,bl dn,qrv tok y]
abbrev Zt:List zA:=[u8 0,i64 0,i64 0,i64 0,.sl 0 [] .full]
abbrev qe6 (l:List Of):List Rw:=l.map fun o=>(o.1,o.2.1)
def qhy (x:Sc)(t:Tm)(c:Nat)(i:Nat):List Of:=(ruL.drop i).filterMap fun i=>(qbm i x t).map fun u=>(Int.ofNat (i+1),Int.ofNat c,u)
theorem qqj (x:Sc)(t:Tm)(c:Nat):qdn qdp x t (.ofNat c)=qhy x t c 0:=by
 unfold qdn qhy qdp
 simp only[if_true,List.drop_zero]
theorem qk3 (x:Sc)(t:Tm)(c:Nat){i:Nat}(hi:i<22):qhy x t c i=(match qbm i x t with|some u=>[(Int.ofNat (i+1),Int.ofNat c,u)]|none=>[])++qhy x t c (i+1):=by
 have h:=qjp hi
 obtain⟨hl,he⟩:=zao.1 h
 unfold qhy
 rw[zaz hl,he]
 simp only[List.filterMap_cons]
 cases qbm i x t<;>rfl
theorem qjz (x:Sc)(t:Tm)(c:Nat):qhy x t c 22=[]:=rfl
theorem qm9 (x:Sc)(t:Tm)(c i:Nat):(qhy x t c i).length<=22-i:=by
 unfold qhy
 refine zbf (List.length_filterMap_le _ _) ?_
 rw[List.length_drop]
 exact zan _
theorem vc0 (c:Nat)(w:Rw)(d:Bool)(k:Nat)(y:List Rw):ldL (VC c w d k y) 0 none=some (i64 (.ofNat c)):=rfl
theorem vc1 (c:Nat)(w:Rw)(d:Bool)(k:Nat)(y:List Rw):ldL (VC c w d k y) 1 (some 2)=some (rv w):=rfl
theorem vc3 (c:Nat)(w:Rw)(d:Bool)(k:Nat)(y:List Rw):ldL (VC c w d k y) 3 none=some (bl d):=rfl
theorem vc4 (c:Nat)(w:Rw)(d:Bool)(k:Nat)(y:List Rw):ldL (VC c w d k y) 4 none=some (qrv k y):=rfl
theorem qvT (w p:Rw):eqs [1,1] false (rv w) (rv p)=some (bl (decide (w=p))):=by
 rw[qpV]
 congr 1
 obtain⟨a,b⟩:=w
 obtain⟨c,d⟩:=p
 simp only[cond_false,zaq]
 by_cases h1:a=c<;>by_cases h2:b=d<;>simp[h1,h2]
theorem cnb (b:Bool):zA.cells none (bl b)=some [bl b]:=rfl
section
variable {N:Nat} {E:qaU} {x:Sc} {t:Tm} {c l:Nat} {w:Rw} {dn:Bool} {H:qaU} (hN:23<=N) (hM:∀i,i<22->∀s,cl (qag CP N E) 121 [pv x,u8 (.ofNat (i+1)),t.v] s=some (qcM (qbm i x t),s))
include hN hM
theorem qnV (s:ASt)(tok:Nat)(y:List Rw)(hs:s.heap=(l,.cells (VC (c+1) w dn tok y))::H)(hlg:LG s tok y)(hy:y.length+22<=100000000):
  ((∀o∈qhy x t c 0,(o.1,o.2.1)≠w)→∃c22 s' tok',s70_5 (qag CP N E) N (.ptr l 0) (i64 (.ofNat c)) (u8 1) 0 t.c [sw x.sn,i64 x.top] Zt [] [] [] s=s70_4 (qag CP N E) N (.ptr l 0) (i64 0) 0 t.c [sw x.sn,i64 x.top] Zt c22 (oc t (.sl 0 [] .full)) [] s'∧
   s'.heap=(l,.cells (VC (c+1) w dn tok' (y++qe6 (qhy x t c 0))))::H/\s'.next=s.next/\Vs s tok y s' tok' (y++qe6 (qhy x t c 0)))/\
  (∀o∈qhy x t c 0,(o.1,o.2.1)=w→∃s' tok' y',s70_5 (qag CP N E) N (.ptr l 0) (i64 (.ofNat c)) (u8 1) 0 t.c [sw x.sn,i64 x.top] Zt [] [] [] s=some (o.2.2.v,s')∧
   s'.heap=(l,.cells (VC (c+1) w true tok' y'))::H/\s'.next=s.next/\Vs s tok y s' tok' y'/\y'.length<=y.length+22):=by
 unfold s70_5
 generalize hF:(fun(h26:zA->Nat->List zA->List zA->List zA->List zA->List zA->List zA->ASt->Res) (x17:zA) (g18:Nat) (c19 c20 c21 c22 c23 c24:List zA) (s25:ASt)=>_)=F
 have step:∀(i:Nat) (L:zA->Nat->List zA->List zA->List zA->List zA->List zA->List zA->ASt->Res) (g:Nat) (c22:List zA) (s:ASt) (tok:Nat) (y:List Rw),i<22->s.heap=(l,.cells (VC (c+1) w dn tok y))::H->LG s tok y->y.length<100000000->
   (qbm i x t=none->∃c22',F L (u8 (.ofNat (i+1))) g t.c [sw x.sn,i64 x.top] Zt c22 [] [] s=L (u8 (.ofNat (i+2))) (g+1) t.c [sw x.sn,i64 x.top] Zt c22' [] [] s)/\
   (∀u,qbm i x t=some u→∃s' tok',s'.next=s.next∧Vs s tok y s' tok' (y++[(Int.ofNat (i+1),Int.ofNat c)])∧
    (w≠(Int.ofNat (i+1),Int.ofNat c)->s'.heap=(l,.cells (VC (c+1) w dn tok' (y++[(Int.ofNat (i+1),Int.ofNat c)])))::H/\F L (u8 (.ofNat (i+1))) g t.c [sw x.sn,i64 x.top] Zt c22 [] [] s=L (u8 (.ofNat (i+2))) (g+1) t.c [sw x.sn,i64 x.top] Zt u.c [] [] s')/\
    (w=(Int.ofNat (i+1),Int.ofNat c)->∃s'',s''.heap=(l,.cells (VC (c+1) w true tok' (y++[(Int.ofNat (i+1),Int.ofNat c)])))::H/\s''.next=s.next/\s''.ntok=s'.ntok/\s''.toks=s'.toks/\F L (u8 (.ofNat (i+1))) g t.c [sw x.sn,i64 x.top] Zt c22 [] [] s=some (u.v,s''))):=by
  intro i L g c22 s tok y hi hs hlg hy
  have hc:=hM i hi
  have hle:¬((22:Int)<Int.ofNat (i+1)):=by simp only[zaf];omega
  have hw:qbb .u8 (Int.ofNat (i+1)+1)=Int.ofNat (i+2):=by
   have:Int.ofNat (i+1)+1=Int.ofNat (i+2):=by simp only[zaf];omega
   rw[this]
   exact qpB (by omega)
  refine⟨fun h=>?_,fun u h=>?_⟩
  ·rw[h] at hc
   refine⟨Tm.z.c,?_⟩
   subst hF
   unfold s70_0
   simp -implicitDefEqProofs only[hle,qjy,qb2,hc,hw,za6,qah,qau,qad,qbc,qay,decide_false,zal,qaa,cond_true,qaj,zab,zaa,qab,qan,qaw,qax,qam,cnd,qaB,zaG,zaD]
  ·rw[h] at hc
   have hcell:qas (qag CP N E).E s l=some (VC (c+1) w dn tok y):=qaX hs
   have hbd:bd [u8 0,i64 0] [(0,none,.c (u8 (.ofNat (i+1)))),(1,none,.c (i64 (.ofNat c)))]=some (rv (Int.ofNat (i+1),Int.ofNat c)):=rfl
   have hms:ms 1 [.int .u8 0,.int .i64 0] [(0,some 2,.c (rv (Int.ofNat (i+1),Int.ofNat c)))]=some (.sl 1 (rwC (Int.ofNat (i+1),Int.ofNat c)) .full):=rfl
   obtain⟨tok',s1,e1,e2,e3,e4⟩:=qrH (qag CP N E) hlg (Int.ofNat (i+1),Int.ofNat c) (by omega)
   have hs1:s1.heap=(l,.cells (VC (c+1) w dn tok y))::H:=e2.trans hs
   have hst:=qrk (o:=4) (cs:=[qrv tok' (y++[(Int.ofNat (i+1),Int.ofNat c)])]) (new:=VC (c+1) w dn tok' (y++[(Int.ofNat (i+1),Int.ofNat c)])) hs1 (qrw _ _) rfl
   generalize hs2:({s1 with heap:=(l,zH.cells (VC (c+1) w dn tok' (y++[(Int.ofNat (i+1),Int.ofNat c)])))::H}:ASt)=s2 at hst
   have hs2h:s2.heap=(l,.cells (VC (c+1) w dn tok' (y++[(Int.ofNat (i+1),Int.ofNat c)])))::H:=by rw[<-hs2]
   have hcell2:qas (qag CP N E).E s2 l=some (VC (c+1) w dn tok' (y++[(Int.ofNat (i+1),Int.ofNat c)])):=qaX hs2h
   have hst3:=qrk (o:=3) (cs:=[bl true]) (new:=VC (c+1) w true tok' (y++[(Int.ofNat (i+1),Int.ofNat c)])) hs2h rfl rfl
   have hlc:=qpG tok' (y++[(Int.ofNat (i+1),Int.ofNat c)])
   refine⟨s2,tok',by rw[<-hs2];exact e3,by rw[<-hs2];exact e4.heap _,fun hne=>⟨hs2h,?_⟩,fun heq=>⟨{s2 with heap:=(l,.cells (VC (c+1) w true tok' (y++[(Int.ofNat (i+1),Int.ofNat c)])))::H},rfl,by rw[<-hs2];exact e3,rfl,rfl,?_⟩⟩
   ·have hd:decide (w=(Int.ofNat (i+1),Int.ofNat c))=false:=decide_eq_false hne
    subst hF
    unfold s70_0
    simp -implicitDefEqProofs only[hle,qjy,qb2,hc,hw,za6,qd3,zaF,ldP hcell,vc4,hbd,hms,e1,hlc,hst,ldP hcell2,vc1,qvT,hd,qah,qau,qad,qbc,qay,decide_false,zak,zal,qaa,cond_true,cond_false,qaj,zab,zaa,qab,qan,qaw,qax,qam,qbv,cnd,qaB,zaB,zbe]
   ·have hd:decide (w=(Int.ofNat (i+1),Int.ofNat c))=true:=decide_eq_true heq
    subst hF
    unfold s70_0
    simp -implicitDefEqProofs only[hle,qjy,qb2,hc,hw,za6,qd3,zaF,ldP hcell,vc4,hbd,hms,e1,hlc,hst,ldP hcell2,vc1,qvT,hd,cnb,hst3,qah,qau,qad,qbc,qay,decide_false,zak,zal,qaa,cond_true,cond_false,qaj,zab,zaa,qab,qan,qaw,qax,qam,qbv,cnd,qaB,zaB,zbe]
 have h0:u8 1=u8 (.ofNat (0+1)):=rfl
 have e0:qe6 ([]:List Of)=[]:=rfl
 constructor
 ·intro hno
  have key:∀(m i k g:Nat) (c22:List zA) (s:ASt) (tok:Nat) (y:List Rw),i+m=22->m<k->(∀o∈qhy x t c i,(o.1,o.2.1)≠w)->s.heap=(l,.cells (VC (c+1) w dn tok y))::H->LG s tok y->y.length+m<=100000000->
    ∃c22' s' tok',lp (fun _ _ _ _ _ _ _ _ _=>none) F k (u8 (.ofNat (i+1))) g t.c [sw x.sn,i64 x.top] Zt c22 [] [] s=s70_4 (qag CP N E) N (.ptr l 0) (i64 0) 0 t.c [sw x.sn,i64 x.top] Zt c22' (oc t (.sl 0 [] .full)) [] s'/\
     s'.heap=(l,.cells (VC (c+1) w dn tok' (y++qe6 (qhy x t c i))))::H/\s'.next=s.next/\Vs s tok y s' tok' (y++qe6 (qhy x t c i)):=by
   intro m
   induction m with
   |zero=>
    intro i k g c22 s tok y hi hk _ hs hlg _
    obtain⟨k,rfl⟩:∃m,k=m+1:=⟨k-1,by omega⟩
    have hi:i=22:=by omega
    subst hi
    refine⟨c22,s,tok,?_,by rw[qjz,e0,zbg];exact hs,rfl,by rw[qjz,e0,zbg];exact Vs.refl hlg⟩
    rw[qa5]
    generalize lp _ F k=L
    subst hF
    have hle:(22:Int)<Int.ofNat (22+1):=by simp only[zaf];omega
    generalize s70_4 (qag CP N E) N=G
    simp -implicitDefEqProofs only[hle,qb2,cn0,tc4,qah,qau,qad,qbc,decide_true,zak,qaa,cond_false,qaj,zab,zaa,cnd]
   |succ m ih=>
    intro i k g c22 s tok y hi hk hno hs hlg hy
    obtain⟨k,rfl⟩:∃m,k=m+1:=⟨k-1,by omega⟩
    rw[qa5]
    have hst:=step i (lp (fun _ _ _ _ _ _ _ _ _=>none) F k) g c22 s tok y (by omega) hs hlg (by omega)
    rw[qk3 x t c (show i<22 by omega)] at hno⊢
    cases hr:qbm i x t with
    |none=>
     rw[hr] at hno
     obtain⟨c22',e⟩:=hst.1 hr
     obtain⟨c3,s',tok',a1,a2⟩:=ih (i+1) k (g+1) c22' s tok y (by omega) (by omega) hno hs hlg (by omega)
     exact⟨c3,s',tok',e.trans a1,a2⟩
    |some u=>
     rw[hr] at hno
     obtain⟨s1,tok1,b1,b2,b3,_⟩:=hst.2 u hr
     have hne:w≠(Int.ofNat (i+1),Int.ofNat c):=fun h=>hno (Int.ofNat (i+1),Int.ofNat c,u) (by simp) h.symm
     obtain⟨b4,b5⟩:=b3 hne
     obtain⟨c3,s',tok',a1,a2,a3,a4⟩:=ih (i+1) k (g+1) u.c s1 tok1 _ (by omega) (by omega) (fun o ho=>hno o (by simp[ho])) b4 b2.lg (by simp only[zay,zar,zaC];omega)
     have he:(y++[(Int.ofNat (i+1),Int.ofNat c)])++qe6 (qhy x t c (i+1))=y++qe6 ([(Int.ofNat (i+1),Int.ofNat c,u)]++qhy x t c (i+1)):=by simp[qe6]
     rw[he] at a2 a4
     exact⟨c3,s',tok',b5.trans a1,a2,a3.trans b1,b2.trans a4⟩
  exact key 22 0 N 0 [] s tok y rfl (by omega) hno hs hlg (by omega)
 ·intro o ho hw
  have key:∀(m i k g:Nat) (c22:List zA) (s:ASt) (tok:Nat) (y:List Rw),i+m=22->m<k->o∈qhy x t c i->s.heap=(l,.cells (VC (c+1) w dn tok y))::H->LG s tok y->y.length+m<=100000000->
    ∃s' tok' y',lp (fun _ _ _ _ _ _ _ _ _=>none) F k (u8 (.ofNat (i+1))) g t.c [sw x.sn,i64 x.top] Zt c22 [] [] s=some (o.2.2.v,s')/\s'.heap=(l,.cells (VC (c+1) w true tok' y'))::H/\s'.next=s.next/\Vs s tok y s' tok' y'/\y'.length<=y.length+m:=by
   intro m
   induction m with
   |zero=>
    intro i k g c22 s tok y hi hk ho
    have hi:i=22:=by omega
    subst hi
    rw[qjz] at ho
    cases ho
   |succ m ih=>
    intro i k g c22 s tok y hi hk ho hs hlg hy
    obtain⟨k,rfl⟩:∃m,k=m+1:=⟨k-1,by omega⟩
    rw[qa5]
    have hst:=step i (lp (fun _ _ _ _ _ _ _ _ _=>none) F k) g c22 s tok y (by omega) hs hlg (by omega)
    rw[qk3 x t c (show i<22 by omega)] at ho
    cases hr:qbm i x t with
    |none=>
     rw[hr] at ho
     obtain⟨c22',e⟩:=hst.1 hr
     obtain⟨s',tok',y',a1,a2,a3,a4,a5⟩:=ih (i+1) k (g+1) c22' s tok y (by omega) (by omega) ho hs hlg (by omega)
     exact⟨s',tok',y',e.trans a1,a2,a3,a4,by omega⟩
    |some u=>
     rw[hr] at ho
     obtain⟨s1,tok1,b1,b2,b3,b6⟩:=hst.2 u hr
     by_cases hq:w=(Int.ofNat (i+1),Int.ofNat c)
     ·obtain⟨s2,d1,d2,d3,d4,d5⟩:=b6 hq
      have hou:o.2.2=u:=by
       simp only[zaP,zaQ,zaE] at ho
       rcases ho with rfl|ho
       ·rfl
       ·exfalso
        unfold qhy at ho
        rw[List.mem_filterMap] at ho
        obtain⟨i2,h1,h2⟩:=ho
        rw[zad] at h2
        obtain⟨v,h3,rfl⟩:=h2
        have h4:i+1<=i2:=by
         obtain⟨q,hq1,hq2⟩:=List.getElem_of_mem h1
         rw[List.getElem_drop] at hq2
         have hq3:i+1+q<22:=by rw[List.length_drop] at hq1;have:ruL.length=22:=rfl;omega
         have:=qjp hq3
         obtain⟨_,hq4⟩:=zao.1 this
         rw[hq4] at hq2
         omega
        rw[hq,zaq] at hw
        have:=hw.1
        simp only[zaf] at this
        omega
      refine⟨s2,tok1,_,by rw[hou];exact d5,d1,d2,⟨by rw[d3];exact b2.nt,by rw[d4];exact b2.ag,b2.tk,fun h=>?_⟩,by simp only[zay,zar,zaC];omega⟩
      rw[d3,d4]
      exact b2.lg h
     ·obtain⟨b4,b5⟩:=b3 hq
      have ho':o∈qhy x t c (i+1):=by
       simp only[zaP,zaQ,zaE] at ho
       rcases ho with rfl|ho
       ·exact absurd hw.symm hq
       ·exact ho
      obtain⟨s',tok',y',a1,a2,a3,a4,a5⟩:=ih (i+1) k (g+1) u.c s1 tok1 _ (by omega) (by omega) ho' b4 b2.lg (by simp only[zay,zar,zaC];omega)
      simp only[zay,zar,zaC] at a5
      exact⟨s',tok',y',b5.trans a1,a2,a3.trans b1,b2.trans a4,by omega⟩
  exact key 22 0 N 0 [] s tok y rfl (by omega) ho hs hlg (by omega)
end
end Go.AI.Tryz
