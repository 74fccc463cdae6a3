/- Part 6: what the functions of the program compute, function by function. No condition. -/
import Derived.Test.YtgecccghlgpmjaaGreatPe
set_option linter.unusedVariables false
set_option linter.unusedSimpArgs false
open Bool renaming and_eq_true→zag,not_true→zak,not_false→zal,and_self→zat
open Int renaming ofNat_eq_natCast→zaf,reduceEq→zaj
open List renaming getElem?_eq_getElem→zah,map_cons→zam,getElem?_eq_some_iff→zao,all_cons→zap,length_cons→zar,getElem?_cons_zero→zas,mem_cons_self→zav,mem_cons_of_mem→zaw,length_append→zay,drop_eq_getElem_cons→zaz,getElem?_append_right→zaA,length_nil→zaC,mem_cons→zaE,mem_of_getElem?→zaN,mem_append→zaO,cons_append→zaP,nil_append→zaQ,append_assoc→zaT,length_map→za1,mem_range→za9,append_nil→zbg,map_nil→zbm
open Nat renaming le_refl→zan,zero_add→zaF,lt_irrefl→zaZ,zero_le→za3,beq_refl→za6,lt_or_ge→zbi,add_zero→zbj
open Option renaming bind_some→zaa,map_some→zab,map_eq_some_iff→zad
open Option.some renaming injEq→zac
namespace Go.AI.Tryz
def KI (n0:Nat)(s:ASt)(j tk tok:Nat)(y:List Rw):Prop:=0<j->n0<=tk/\tk<s.ntok/\qar s.toks tk=some (j,5)/\(y≠[]->tk≠tok)
theorem KI.visit {n0:Nat}{s s1:ASt}{j tk tok tok1:Nat}{y y1:List Rw}(h:KI n0 s j tk tok y)(v:Vs s tok y s1 tok1 y1):KI n0 s1 j tk tok1 y1:=fun hj=>by
 obtain⟨h1,h2,h3,h4⟩:=h hj
 have:=v.nt
 refine⟨h1,by omega,by rw[v.ag tk h2 h4,h3],fun hy=>?_⟩
 rcases v.tk hy with⟨q1,q2⟩|q
 ·rw[q2];exact h4 q1
 ·omega
theorem qlZ (e:Env){f:Nat->List zP}{s s0:ASt}{k0 j tk tok:Nat}{y0 y:List Rw}{u:Tm}(hk:KI s0.ntok s j tk tok y)(v:Vs s0 k0 y0 s tok y)(hj:j<=1000000)(hf:f (j+1)=(if j=0 then[] else f j)++u.cells):
  ∃tk' s',ap e 5 56 (qb9 f tk j) (.sl 1 u.cells .full) s=some (qb9 f tk' (j+1),s')/\s'.heap=s.heap/\s'.next=s.next/\KI s0.ntok s' (j+1) tk' tok y/\Vs s0 k0 y0 s' tok y:=by
 have vn:=v.nt
 cases j with
 |zero=>
  refine⟨s.ntok,{s with ntok:=s.ntok+1,toks:=(s.ntok,1,5)::s.toks},?_,rfl,rfl,fun _=>⟨vn,Nat.lt_succ_self _,?_,fun hy=>?_⟩,⟨by show _<=s.ntok+1;omega,fun t ht hn=>?_,v.tk,fun hy=>?_⟩⟩
  ·show ap e 5 56 (.sl 0 [] .full) _ s=_
   rw[qg9 e s rfl (Tm.len_cells u) (by omega)]
   simp only[qb9,hf,if_true,zaQ]
  ·show qar ((s.ntok,1,5)::s.toks) s.ntok=_
   rw[qao,if_pos rfl]
  ·have:=(v.lg hy).1
   omega
  ·show qar ((s.ntok,1,5)::s.toks) t=_
   rw[qao,if_neg (by omega)]
   exact v.ag t ht hn
  ·obtain⟨h1,h2⟩:=v.lg hy
   refine⟨Nat.lt_succ_of_lt h1,?_⟩
   show qar ((s.ntok,1,5)::s.toks) tok=_
   rw[qao,if_neg (by omega)]
   exact h2
 |succ j=>
  obtain⟨h1,h2,h3,h4⟩:=hk (Nat.succ_pos _)
  obtain⟨ts,e1,e2⟩:=qpp e (sz:=5) (b:=56) (n:=j+1) (t:=tk) (cs:=f (j+1)) (new:=u.cells) (y:=.sl 1 u.cells .full) h3 rfl (Tm.len_cells u) (by omega)
  refine⟨tk,{s with toks:=ts},?_,rfl,rfl,fun _=>⟨h1,h2,?_,h4⟩,⟨vn,fun t ht hn=>?_,v.tk,fun hy=>?_⟩⟩
  ·simp only[qb9]
   rw[hf,if_neg (by omega)]
   exact e1
  ·show qar ts tk=_
   rw[e2,if_pos rfl]
  ·show qar ts t=_
   rw[e2,if_neg (by omega)]
   exact v.ag t ht hn
  ·obtain⟨g1,g2⟩:=v.lg hy
   refine⟨g1,?_⟩
   show qar ts tok=_
   rw[e2,if_neg (fun q=>h4 hy q.symm)]
   exact g2
structure KidP (N:Nat)(x:Sc)(t:Tm):Prop where
 cell:∀E s,cl (qag CP N E) 122 [i64 t.n] s=some ((Sn.cell t.n).v,s)
 wcell:∀E s,cl (qag CP N E) 119 [sw x.sn,(Sn.cell t.n).v] s=some (sw (x.sn++[Sn.cell t.n]),s)
 size:t.k=17->∀u,t.ks[0]? =some u->∀E s,cl (qag CP N E) 123 [pv x,u.v] s=some (i64 (szF x u).1,s)
 val:∀E s,cl (qag CP N E) 120 [i64 (szF x (t.ks.headD .z)).1] s=some ((Sn.val (szF x (t.ks.headD .z)).1).v,s)
 wval:∀E s,cl (qag CP N E) 119 [sw x.sn,(Sn.val (szF x (t.ks.headD .z)).1).v] s=some (sw (x.sn++[Sn.val (szF x (t.ks.headD .z)).1]),s)
theorem qt3 {x:Sc}{t:Tm}(h:Rd x t):Ev fun N=>KidP N x t:=by
 have hl:=h.len
 have hsn:x.sn.length<=1000000:=by rw[qp7];omega
 have hs:Ev fun N=>t.k=17->∀u,t.ks[0]? =some u->∀E s,cl (qag CP N E) 123 [pv x,u.v] s=some (i64 (szF x u).1,s):=Ev.imp fun h17=>by
  cases h.nd.sh with
  |obj u w=>
   have hk:=h.kid (j:=0) (u:=u) rfl
   rw[qe3 h17] at hk
   have hsz:u.k≠16/\u.k≠17:=by
    rcases h.nd.w with g|⟨b,g⟩
    ·rw[qdM] at g;cases g
    ·rw[qlP] at g
     simp only[zag] at g
     exact quj g.2.1.1
   exact(hk.psize hsz).mono fun N hN v hv E s=>by
    simp only[Tm.ks,zas,zac] at hv
    subst hv
    exact hN E s
  |_=>simp[Tm.k] at h17
 exact(((qp4 t.n).and (qju x.sn hsn (Sn.cell t.n))).and (hs.and ((qsq (szF x (t.ks.headD .z)).1).and (qju x.sn hsn (Sn.val (szF x (t.ks.headD .z)).1))))).mono fun N ⟨⟨a,b⟩,c,d,e⟩=>⟨a,b,c,d,e⟩
theorem qqk (x:Sc)(t:Tm)(j:Nat):(x.kid t j).top=x.top:=by
 unfold Sc.kid
 split
 ·rfl
 ·split
  ·rfl
  ·split<;>rfl
theorem qql {N:Nat}{E:qaU}{x:Sc}{t:Tm}(ht:x.top<=Int.ofNat x.ids.length)(hp:KidP N x t){j:Nat}(hj:j<t.ks.length)(g:Nat)(c80 c81 c82:List zA)(s:ASt)(J:List zA->List zA->List zA->List zA->List zA->List zA->ASt->Res):
  ((ldL [sw x.sn,i64 x.top] 0 (some 2)).bind fun x89=>(zA.cells (some 2) x89).bind fun c90=>cnd (Nat.beq (g+1) (g+1)) ((over [.sl 0 [] .full,i64 0] 0 c90).bind fun c91=>(ldL t.c 0 none).bind fun x92=>(bn .eql x92 (u8 10)).bind fun x93=>
   jn J fun j115=>qae x93 ((ldL [sw x.sn,i64 x.top] 0 none).bind fun x116=>(ldL t.c 1 none).bind fun x117=>qac (cl (qag CP N E) 122 [x117] s) fun x118 s119=>qac (cl (qag CP N E) 119 [x116,x118] s119) fun x120 s121=>
    (zA.cells none x120).bind fun c122=>cnd (Nat.beq (g+1) (g+1)) ((over c91 0 c122).bind fun c123=>j115 t.c [sw x.sn,i64 x.top] c80 c81 c82 c123 s121) none)
    (jn (s70_3 (qag CP N E) N j115 [sw x.sn,i64 x.top] t.c s g c91 c80 c81 c82) fun j147=>(ldL t.c 0 none).bind fun x148=>(bn .eql x148 (u8 17)).bind fun x149=>qae x149 ((bn .eql (i64 (.ofNat j)) (i64 1)).bind fun x150=>j147 x150) (j147 (bl false)))) none)=
  J t.c [sw x.sn,i64 x.top] c80 c81 c82 [sw (x.kid t j).sn,i64 x.top] s:=by
 have o1:over [.sl 0 [] .full,i64 0] 0 [sw x.sn,i64 x.top]=some [sw x.sn,i64 x.top]:=rfl
 have o2:∀a:zA,over [sw x.sn,i64 x.top] 0 [a]=some [a,i64 x.top]:=fun _=>rfl
 have cw:∀l:List Sn,zA.cells none (sw l)=some [sw l]:=fun _=>rfl
 have e1:(Int.ofNat j=1)=(j=1):=by simp only[zaf,eq_iff_iff];omega
 unfold s70_3 s70_2
 by_cases k10:t.k=10
 ·have hk:(x.kid t j).sn=x.sn++[Sn.cell t.n]:=by unfold Sc.kid;rw[if_pos k10,qjv x _ ht];rfl
  rw[hk]
  simp -implicitDefEqProofs only[qjy,bs0,pvc,o1,o2,cw,k10,hp.cell,hp.wcell,za6,qba,qbX,qbj,qad,qaf,zaj,decide_true,decide_false,qaa,cond_true,cond_false,qaj,zab,zaa,qab,cnd]
 ·by_cases k17:t.k=17
  ·by_cases j1:j=1
   ·obtain⟨u,hu⟩:∃u,t.ks[0]? =some u:=⟨_,zah (show 0<t.ks.length by omega)⟩
    have hd:t.ks.headD .z=u:=by
     cases hks:t.ks with
     |nil=>rw[hks] at hu;cases hu
     |cons a r=>rw[hks] at hu;simpa using hu
    have hk:(x.kid t j).sn=x.sn++[Sn.val (szF x u).1]:=by unfold Sc.kid;rw[if_neg k10,if_pos ⟨k17,j1⟩,qjv x _ ht,hd];rfl
    rw[hk]
    obtain⟨i0,l0⟩:=qb5 (n:=N) (E:=E) (l:=t.ks) (u:=u) hu
    have c1:=hp.size k17 u hu E
    have c2:=hp.val E
    have c3:=hp.wval E
    rw[hd] at c2 c3
    have e2:decide (Int.ofNat j=1)=true:=decide_eq_true (by rw[j1];rfl)
    simp -implicitDefEqProofs only[qjy,bs0,pvc,o1,o2,cw,k17,e2,i0,l0,c1,c2,c3,za6,qba,qbX,qbj,qad,qaf,zaj,decide_true,decide_false,qaa,cond_true,cond_false,qaj,zab,zaa,qab,cnd]
   ·have hk:(x.kid t j).sn=x.sn:=by
     unfold Sc.kid
     rw[if_neg k10,if_neg (fun q=>j1 q.2),if_neg (fun q=>by omega)]
    rw[hk]
    simp -implicitDefEqProofs only[qjy,bs0,pvc,o1,k17,e1,j1,za6,qba,qbX,qbj,qad,qaf,zaj,decide_true,decide_false,qaa,cond_true,cond_false,qaj,zab,zaa,cnd]
  ·have hk:(x.kid t j).sn=x.sn:=by
    unfold Sc.kid
    rw[if_neg k10,if_neg (fun q=>k17 q.1)]
    split<;>rfl
   rw[hk]
   simp -implicitDefEqProofs only[qjy,bs0,pvc,o1,k10,k17,za6,qba,qbX,qbj,qad,qaf,decide_false,qaa,cond_false,qaj,zab,zaa,cnd]
end Go.AI.Tryz
namespace Go.AI.Tryz
theorem qjA (sm:Int->Bool):∀(l m:List (Sc×Tm)) (c:Nat),qdx sm (.ofNat c) (l++m)=qdx sm (.ofNat c) l++qdx sm (.ofNat (c+l.length)) m
 |[],m,c=>rfl
 |p::l,m,c=>by
  have e:Int.ofNat c+1=Int.ofNat (c+1):=rfl
  simp only[zaP,qdx,e,zar]
  rw[qjA sm l m (c+1),zaT,show c+1+l.length=c+(l.length+1) by omega]
theorem qdd {sm:Int->Bool}{l:List (Sc×Tm)}{c:Nat}{o:Of}(h:o∈qdx sm (.ofNat c) l):∃j,j<l.length/\o.2.1=Int.ofNat (c+j):=by
 obtain⟨j,p,i,h1,h2,_⟩:=qfw h
 obtain⟨hj,_⟩:=zao.1 h1
 exact⟨j,hj,by rw[h2];rfl⟩
theorem qk4 (x:Sc)(t:Tm)(c:Nat):qdx qdp (.ofNat c) (qbp t x)=qhy x t c 0++qdx qdp (.ofNat (c+1)) (qbf (fun j=>x.kid t j) 0 t.ks):=by
 rw[qcV]
 simp only[qdx]
 rw[qqj]
 rfl
theorem qiD {x:Sc}{t:Tm}{c i:Nat}{o:Of}(h:o∈qhy x t c i):o.2.1=Int.ofNat c:=by
 unfold qhy at h
 rw[List.mem_filterMap] at h
 obtain⟨i2,_,h2⟩:=h
 rw[zad] at h2
 obtain⟨v,_,rfl⟩:=h2
 rfl
theorem qfy (a b:List Of):qe6 (a++b)=qe6 a++qe6 b:=List.map_append
def qrI (NS:List (Sc×Tm))(N d:Nat):Prop:=∀t x,t.size<=d->(∀p∈qbp t x,p∈NS)->∀E s l H c w dn tok y,s.heap=(l,.cells (VC c w dn tok y))::H->LG s tok y->c+t.size<=1000000000->y.length+22*t.size<=100000000->
 ((∀o∈qdx qdp (.ofNat c) (qbp t x),(o.1,o.2.1)≠w)->∃s' tok',cl (qag CP N E) 70 [.ptr l 0,t.v,pv x] s=some (t.v,s')/\s'.heap=(l,.cells (VC (c+t.size) w dn tok' (y++qe6 (qdx qdp (.ofNat c) (qbp t x)))))::H/\s'.next=s.next/\Vs s tok y s' tok' (y++qe6 (qdx qdp (.ofNat c) (qbp t x))))/\
 (∀o∈qdx qdp (.ofNat c) (qbp t x),(o.1,o.2.1)=w->∃s' tok' c' y',cl (qag CP N E) 70 [.ptr l 0,t.v,pv x] s=some ((Tm.put1 o.2.2 (o.2.1-.ofNat c).toNat t).v,s')/\s'.heap=(l,.cells (VC c' w true tok' y'))::H/\s'.next=s.next/\Vs s tok y s' tok' y'/\o.2.1< .ofNat c'/\c'<=c+t.size/\y'.length<=y.length+22*t.size)
abbrev KT:=zA->Nat->List zA->List zA->List zA->List zA->List zA->List zA->ASt->Res
noncomputable def qt4 (e:Env) (n:Nat) (x0:zA):KT->KT:=fun h85 x76 g77 c78 c79 c80 c81 c82 c83 s84=>
 (ldL c78 4 none).bind fun x86=>
 (ln false x86).bind fun x87=>
 (bn .lss x76 x87).bind fun x88=>
 qae x88 ((ldL c79 0 (some 2)).bind fun x89=>
 (zA.cells (some 2) x89).bind fun c90=>
 cnd (Nat.beq (g77+1) (g77+1)) ((over [(.sl 0 [] .full),(i64 0)] 0 c90).bind fun c91=>
 (ldL c78 0 none).bind fun x92=>
 (bn .eql x92 (u8 10)).bind fun x93=>
 jn (s70_1 e n x76 g77 x0 h85) fun j115=>
 qae x93 ((ldL c79 0 none).bind fun x116=>
 (ldL c78 1 none).bind fun x117=>
 qac (cl e 122 [x117] s84) fun x118 s119=>
 qac (cl e 119 [x116,x118] s119) fun x120 s121=>
 (zA.cells none x120).bind fun c122=>
 cnd (Nat.beq (g77+1) (g77+1)) ((over c91 0 c122).bind fun c123=>
 j115 c78 c79 c80 c81 c82 c123 s121) none)
 (jn (s70_3 e n j115 c79 c78 s84 g77 c91 c80 c81 c82) fun j147=>
 (ldL c78 0 none).bind fun x148=>
 (bn .eql x148 (u8 17)).bind fun x149=>
 qae x149 ((bn .eql x76 (i64 1)).bind fun x150=>
 j147 x150)
 (j147 (bl false)))) none)
 ((ldL c82 0 (some 5)).bind fun x151=>
 (zA.cells (some 5) x151).bind fun c152=>
 (over c80 0 c152).bind fun c153=>
 (ldL c153 0 (some 5)).bind fun x154=>
 some (x154,s84))
theorem s70_4_lp (e:Env)(n:Nat)(x0:zA):s70_4 e n x0=lp (fun _ _ _ _ _ _ _ _ _=>none) (qt4 e n x0) n:=rfl
section
variable {N:Nat} {E:qaU} {x:Sc} {t:Tm} (hp:KidP N x t) (htop:x.top<=Int.ofNat x.ids.length) {l:Nat} (hlen:t.ks.length<=1000000)
include hp htop hlen
theorem qhz {f:Nat->List zP}{j g tk:Nat}{c81 c83:List zA}{s s1:ASt}{u r:Tm}(hu:t.ks[j]? =some u)(hv:cl (qag CP N E) 70 [.ptr l 0,u.v,pv (x.kid t j)] s=some (r.v,s1)){tk':Nat}{s2:ASt}(ha:ap (qag CP N E) 5 56 (qb9 f tk j) (.sl 1 r.cells .full) s1=some (qb9 f tk' (j+1),s2))(L:KT):
  qt4 (qag CP N E) N (.ptr l 0) L (i64 (.ofNat j)) g t.c [sw x.sn,i64 x.top] Zt c81 (oc t (qb9 f tk j)) c83 s=L (i64 (.ofNat (j+1))) (g+1) t.c [sw x.sn,i64 x.top] Zt c81 (oc t (qb9 f tk' (j+1))) [sw (x.kid t j).sn,i64 x.top] s2:=by
 have hj:j<t.ks.length:=(zao.1 hu).1
 have hpv:pv (x.kid t j)=.agg [sw (x.kid t j).sn,i64 x.top]:=by rw[pv,qqk]
 rw[hpv] at hv
 have hplace:=qql (E:=E) htop hp hj g Zt c81 (oc t (qb9 f tk j)) s (s70_1 (qag CP N E) N (i64 (.ofNat j)) g (.ptr l 0) L)
 have hfin:s70_1 (qag CP N E) N (i64 (.ofNat j)) g (.ptr l 0) L t.c [sw x.sn,i64 x.top] Zt c81 (oc t (qb9 f tk j)) [sw (x.kid t j).sn,i64 x.top] s=L (i64 (.ofNat (j+1))) (g+1) t.c [sw x.sn,i64 x.top] Zt c81 (oc t (qb9 f tk' (j+1))) [sw (x.kid t j).sn,i64 x.top] s2:=by
  unfold s70_1
  simp -implicitDefEqProofs only[oc4,Tm.ia_kid hj,Tm.ld_kid _ _ hu,za6,qjy,hv,qwl _ [.int .u8 0,.int .i64 0,.int .i64 0,.int .i64 0,.sl 0 []] rfl,ha,qhx,oco,qaO (show j<9223372036854775807 by omega),qbj,qad,qay,zab,zaa,qab,cnd]
 rw[hfin] at hplace
 rw[<-hplace]
 unfold qt4
 generalize s70_1 (qag CP N E) N=G1
 generalize s70_3 (qag CP N E) N=G3
 rw[show ldL t.c 4 none=some (.p (.sl t.ks.length (Tm.cellsL t.ks))) from rfl,zaa,qbo,zaa,qad,qap,zab,zaa,decide_eq_true (of_lt.2 hj),qaa,cond_true]
end
theorem qt5 {N:Nat}{E:qaU}{x:Sc}{t:Tm}{l g:Nat}{c81 c83:List zA}{s:ASt}(L:KT)(v:zA):qt4 (qag CP N E) N (.ptr l 0) L (i64 (.ofNat t.ks.length)) g t.c [sw x.sn,i64 x.top] Zt c81 (oc t v) c83 s=some (.agg (oc t v),s):=by
 have h3:¬(Int.ofNat t.ks.length<Int.ofNat t.ks.length):=fun h=>zaZ _ (of_lt.1 h)
 unfold qt4
 generalize s70_1 (qag CP N E) N=G1
 generalize s70_3 (qag CP N E) N=G3
 simp -implicitDefEqProofs only[h3,ocl,occ,ocz,qba,qbX,qbj,qad,qaf,qap,decide_false,qaa,cond_false,qaj,zab,zaa,qbo,cnd]
end Go.AI.Tryz
namespace Go.AI.Tryz
theorem qeC:∀(q:List (Sc×Tm)) (c:Nat),(qdx qdp (.ofNat c) q).length<=22*q.length
 |[],_=>za3 _
 |p::q,c=>by
  simp only[qdx,zay,zar]
  have:(qdn qdp p.1 p.2 (.ofNat c)).length<=22:=by rw[qqj];exact qm9 _ _ _ _
  have e:Int.ofNat c+1=Int.ofNat (c+1):=rfl
  rw[e]
  have:=qeC q (c+1)
  omega
abbrev kzL:KT:=fun _ _ _ _ _ _ _ _ _=>none
section
variable {NS:List (Sc×Tm)} {N d:Nat} (ih:qrI NS N d) {E:qaU} {x:Sc} {t:Tm} (hp:KidP N x t) (htop:x.top<=Int.ofNat x.ids.length) {l:Nat} {H:qaU} {w:Rw} {s0:ASt} {k0:Nat} {y0:List Rw} (hd:∀u∈t.ks,u.size<=d) (hlen:t.ks.length<=1000000)
include ih hp htop hd hlen
theorem qqm:∀(r ps done:List Tm) (j k g c:Nat) (dn:Bool) (tk:Nat) (c81 c83:List zA) (s:ASt) (tok:Nat) (y:List Rw),t.ks=done++r->done.length=j->ps.length=j->r.length<k->s.heap=(l,.cells (VC c w dn tok y))::H->KI s0.ntok s j tk tok y->Vs s0 k0 y0 s tok y->
  c+Tm.sizeL r<=1000000000->y.length+22*Tm.sizeL r<=100000000->(∀p∈qbf (fun j=>x.kid t j) j r,p∈NS)->(∀o∈qdx qdp (.ofNat c) (qbf (fun j=>x.kid t j) j r),(o.1,o.2.1)≠w)->
  ∃tk' s' tok',lp kzL (qt4 (qag CP N E) N (.ptr l 0)) k (i64 (.ofNat j)) g t.c [sw x.sn,i64 x.top] Zt c81 (oc t (qb9 (fun i=>Tm.cellsL ((ps++r).take i)) tk j)) c83 s=some (.agg (oc t (qb9 (fun i=>Tm.cellsL ((ps++r).take i)) tk' (ps++r).length)),s')/\
   s'.heap=(l,.cells (VC (c+Tm.sizeL r) w dn tok' (y++qe6 (qdx qdp (.ofNat c) (qbf (fun j=>x.kid t j) j r)))))::H/\s'.next=s.next/\Vs s0 k0 y0 s' tok' (y++qe6 (qdx qdp (.ofNat c) (qbf (fun j=>x.kid t j) j r)))
 |[],ps,done,j,k,g,c,dn,tk,c81,c83,s,tok,y,h1,h2,h3,hk,hs,hki,hv,_,_,_,_=>by
  obtain⟨k,rfl⟩:∃m,k=m+1:=⟨k-1,by simp only[zaC] at hk;omega⟩
  have hj:j=t.ks.length:=by rw[h1];simp[h2]
  subst hj
  refine⟨tk,s,tok,?_,by simp only[qbf,qdx,Tm.sizeL,zbm,zbg,zbj];exact hs,rfl,by simp only[qbf,qdx,zbm,zbg];exact hv⟩
  rw[qa5,zbg,h3]
  exact qt5 _ _
 |u::r,ps,done,j,k,g,c,dn,tk,c81,c83,s,tok,y,h1,h2,h3,hk,hs,hki,hv,hc,hy,hm,hno=>by
  obtain⟨k,rfl⟩:∃m,k=m+1:=⟨k-1,by simp only[zar] at hk;omega⟩
  simp only[zar,Tm.sizeL] at hk hc hy
  have hu:t.ks[j]? =some u:=by rw[h1,zaA (by omega),h2];simp
  have hjl:j<t.ks.length:=(zao.1 hu).1
  have hum:u∈t.ks:=zaN hu
  simp only[qbf] at hm hno⊢
  rw[qjA,qbP] at hno⊢
  obtain⟨s1,tok1,a1,a2,a3,a4⟩:=(ih u (x.kid t j) (hd u hum) (fun p q=>hm p (List.mem_append_left _ q)) E s l H c w dn tok y hs hv.lg (by omega) (by omega)).1 (fun o ho=>hno o (List.mem_append_left _ ho))
  have hv1:=hv.trans a4
  have hoL:=qeC (qbp u (x.kid t j)) c
  rw[qbP] at hoL
  obtain⟨tk',s2,b1,b2,b3,b4,b5⟩:=qlZ (qag CP N E) (f:=fun i=>Tm.cellsL ((ps++u::r).take i)) (u:=u) (hki.visit a4) hv1 (by omega) (by
   have:(ps++u::r)[j]'(by simp[h3])=u:=by simp[<-h3]
   have h:=qbJ (ks:=ps++u::r) (j:=j) (by simp[h3])
   rw[this] at h
   exact h)
  obtain⟨tk2,s3,tok3,d1,d2,d3,d4⟩:=qqm r (ps++[u]) (done++[u]) (j+1) k (g+1) (c+u.size) dn tk' c81 [sw (x.kid t j).sn,i64 x.top] s2 tok1 _ (by rw[h1];simp) (by simp[h2]) (by simp[h3]) (by omega) (b2.trans a2) b4 b5 (by omega)
   (by rw[zay,za1];omega) (fun p q=>hm p (List.mem_append_right _ q)) (fun o ho=>hno o (List.mem_append_right _ ho))
  have e1:(ps++[u])++r=ps++u::r:=by simp
  rw[e1] at d1
  rw[show c+u.size+Tm.sizeL r=c+(u.size+Tm.sizeL r) by omega,zaT,<-qfy] at d2
  rw[zaT,<-qfy] at d4
  refine⟨tk2,s3,tok3,?_,d2,d3.trans (b3.trans a3),d4⟩
  rw[qa5]
  exact(qhz hp htop hlen hu a1 b1 _).trans d1
end
end Go.AI.Tryz
namespace Go.AI.Tryz
theorem qqn (u:Tm)(j:Nat)(k:Tm)(r:List Tm):Tm.putL u j (k::r)=if j<k.size then Tm.put1 u j k::r else k::Tm.putL u (j-k.size) r:=by rw[Tm.putL]
theorem ql0 (sc:Nat->Sc)(j:Nat)(r:List Tm):(qbf sc j r).length=Tm.sizeL r:=qfU r sc j
section
variable {NS:List (Sc×Tm)} {N d:Nat} (ih:qrI NS N d) {E:qaU} {x:Sc} {t:Tm} (hp:KidP N x t) (htop:x.top<=Int.ofNat x.ids.length) {l:Nat} {H:qaU} {w:Rw} {s0:ASt} {k0:Nat} {y0:List Rw} (hd:∀u∈t.ks,u.size<=d) (hlen:t.ks.length<=1000000)
include ih hp htop hd hlen
theorem qst:∀(r ps done:List Tm) (j k g c:Nat) (dn:Bool) (tk:Nat) (c81 c83:List zA) (s:ASt) (tok:Nat) (y:List Rw),t.ks=done++r->done.length=j->ps.length=j->r.length<k->s.heap=(l,.cells (VC c w dn tok y))::H->KI s0.ntok s j tk tok y->Vs s0 k0 y0 s tok y->
  c+Tm.sizeL r<=1000000000->y.length+22*Tm.sizeL r<=100000000->(∀p∈qbf (fun j=>x.kid t j) j r,p∈NS)->∀o∈qdx qdp (.ofNat c) (qbf (fun j=>x.kid t j) j r),(o.1,o.2.1)=w->∀q,q=ps++Tm.putL o.2.2 (o.2.1-.ofNat c).toNat r->
  ∃tk' s' tok' c' y',lp kzL (qt4 (qag CP N E) N (.ptr l 0)) k (i64 (.ofNat j)) g t.c [sw x.sn,i64 x.top] Zt c81 (oc t (qb9 (fun i=>Tm.cellsL (q.take i)) tk j)) c83 s=some (.agg (oc t (qb9 (fun i=>Tm.cellsL (q.take i)) tk' q.length)),s')/\
   s'.heap=(l,.cells (VC c' w true tok' y'))::H/\s'.next=s.next/\Vs s0 k0 y0 s' tok' y'/\o.2.1< .ofNat c'/\c'<=c+Tm.sizeL r/\y'.length<=y.length+22*Tm.sizeL r
 |[],ps,done,j,k,g,c,dn,tk,c81,c83,s,tok,y,_,_,_,_,_,_,_,_,_,_,o,ho,_,_,_=>by simp only[qbf,qdx] at ho;cases ho
 |u::r,ps,done,j,k,g,c,dn,tk,c81,c83,s,tok,y,h1,h2,h3,hk,hs,hki,hv,hc,hy,hm,o,ho,hw,q,hq=>by
  obtain⟨k,rfl⟩:∃m,k=m+1:=⟨k-1,by simp only[zar] at hk;omega⟩
  simp only[zar,Tm.sizeL] at hk hc hy
  have hu:t.ks[j]? =some u:=by rw[h1,zaA (by omega),h2];simp
  have hjl:j<t.ks.length:=(zao.1 hu).1
  have hum:u∈t.ks:=zaN hu
  simp only[qbf] at hm ho
  rw[qjA,qbP,zaO] at ho
  rw[qqn] at hq
  have IH:=ih u (x.kid t j) (hd u hum) (fun p hp=>hm p (List.mem_append_left _ hp)) E s l H c w dn tok y hs hv.lg (by omega) (by omega)
  have hw2:w.2=o.2.1:=by rw[<-hw]
  rcases ho with ho|ho
  ·obtain⟨i,hi,hpl⟩:=qdd ho
   rw[qbP] at hi
   obtain⟨s1,tok1,c1,y1,a1,a2,a3,a4,a5,a6,a7⟩:=IH.2 o ho hw
   have hv1:=hv.trans a4
   have hlt:(o.2.1-Int.ofNat c).toNat<u.size:=by rw[hpl];simp only[zaf];omega
   rw[if_pos hlt] at hq
   generalize hr1:Tm.put1 o.2.2 (o.2.1-Int.ofNat c).toNat u=r1 at hq a1
   subst hq
   obtain⟨tk',s2,b1,b2,b3,b4,b5⟩:=qlZ (qag CP N E) (f:=fun i=>Tm.cellsL ((ps++r1::r).take i)) (u:=r1) (hki.visit a4) hv1 (by omega) (by
    have:(ps++r1::r)[j]'(by simp[h3])=r1:=by simp[<-h3]
    have h:=qbJ (ks:=ps++r1::r) (j:=j) (by simp[h3])
    rw[this] at h
    exact h)
   obtain⟨tk2,s3,tok3,d1,d2,d3,d4⟩:=qqm ih hp htop hd hlen r (ps++[r1]) (done++[u]) (j+1) k (g+1) c1 true tk' c81 [sw (x.kid t j).sn,i64 x.top] s2 tok1 y1 (by rw[h1];simp) (by simp[h2]) (by simp[h3]) (by omega) (b2.trans a2) b4 b5 (by omega) (by omega)
    (fun p q=>hm p (List.mem_append_right _ q)) (fun o' ho' he=>by
     obtain⟨i',_,hi'⟩:=qdd ho'
     have:o'.2.1=w.2:=by rw[<-he]
     rw[hw2,hi'] at this
     simp only[zaf] at this a5
     omega)
   have e1:(ps++[r1])++r=ps++r1::r:=by simp
   rw[e1] at d1
   have hol:=qeC (qbf (fun j=>x.kid t j) (j+1) r) c1
   rw[ql0] at hol
   refine⟨tk2,s3,tok3,_,_,?_,d2,d3.trans (b3.trans a3),d4,?_,by simp only[Tm.sizeL];omega,?_⟩
   ·rw[qa5]
    exact(qhz hp htop hlen hu a1 b1 _).trans d1
   ·simp only[zaf] at a5⊢;omega
   ·simp only[zay,za1,Tm.sizeL];omega
  ·obtain⟨i,hi,hpl⟩:=qdd ho
   obtain⟨s1,tok1,a1,a2,a3,a4⟩:=IH.1 (fun o' ho' he=>by
    obtain⟨i',hi',hp'⟩:=qdd ho'
    rw[qbP] at hi'
    have:o'.2.1=w.2:=by rw[<-he]
    rw[hw2,hp',hpl] at this
    simp only[zaf] at this
    omega)
   have hv1:=hv.trans a4
   have hlt:¬(o.2.1-Int.ofNat c).toNat<u.size:=by rw[hpl];simp only[zaf];omega
   rw[if_neg hlt] at hq
   have he:(o.2.1-Int.ofNat c).toNat-u.size=(o.2.1-Int.ofNat (c+u.size)).toNat:=by rw[hpl];simp only[zaf];omega
   rw[he] at hq
   have hoL:=qeC (qbp u (x.kid t j)) c
   rw[qbP] at hoL
   have hql:j<q.length:=by rw[hq];simp[h3]
   obtain⟨tk',s2,b1,b2,b3,b4,b5⟩:=qlZ (qag CP N E) (f:=fun i=>Tm.cellsL (q.take i)) (u:=u) (hki.visit a4) hv1 (by omega) (by
    have:q[j]'hql=u:=by simp[hq,<-h3]
    have h:=qbJ (ks:=q) (j:=j) hql
    rw[this] at h
    exact h)
   obtain⟨tk2,s3,tok3,c3,y3,d1,d2,d3,d4,d5,d6,d7⟩:=qst r (ps++[u]) (done++[u]) (j+1) k (g+1) (c+u.size) dn tk' c81 [sw (x.kid t j).sn,i64 x.top] s2 tok1 _ (by rw[h1];simp) (by simp[h2]) (by simp[h3]) (by omega) (b2.trans a2) b4 b5 (by omega)
    (by rw[zay,za1];omega) (fun p q=>hm p (List.mem_append_right _ q)) o ho hw q (by rw[hq];simp)
   rw[zay,za1] at d7
   refine⟨tk2,s3,tok3,c3,y3,?_,d2,d3.trans (b3.trans a3),d4,d5,by simp only[Tm.sizeL];omega,by simp only[Tm.sizeL];omega⟩
   rw[qa5]
   exact(qhz hp htop hlen hu a1 b1 _).trans d1
end
theorem qna {NS:List (Sc×Tm)}(hR:∀p∈NS,Rd p.1 p.2)(hM:Ev fun N=>∀p∈NS,(∀i,i<22->∀E s,cl (qag CP N E) 121 [pv p.1,u8 (.ofNat (i+1)),p.2.v] s=some (qcM (qbm i p.1 p.2),s))/\KidP N p.1 p.2):∀d,d<=1000000->Ev fun N=>qrI NS N d
 |0,_=>Ev.of fun N t x h=>by have:=t.size_pos;omega
 |d+1,hd1=>by
  refine Ev.succ (((qna hR hM d (by omega)).and (hM.and (Ev.ge (d+30)))).mono fun N ⟨ih,hM,hN⟩ t x hsz hmem E s l H c w dn tok y hs hlg hc hy=>?_)
  have hself:(x,t)∈NS:=hmem _ (by rw[qcV];exact zav ..)
  have hRd:=hR _ hself
  obtain⟨hMk,hKp⟩:=hM _ hself
  have hKp:KidP N x t:=hKp
  have htop:x.top<=Int.ofNat x.ids.length:=hRd.top
  have hts:=Tm.size_ks t
  have hlen:=Tm.len_le_size t.ks
  have hdk:∀u∈t.ks,u.size<=d:=fun u hu=>by have:=qa3 hu;omega
  have hmk:∀p∈qbf (fun j=>x.kid t j) 0 t.ks,p∈NS:=fun p hp=>hmem p (by rw[qcV];exact zaw _ hp)
  have call:∀(r:Tm) (v:zA) (s':ASt),s70 (qag CP N E) N (.ptr l 0) t.v (pv x) s=some (v,s')->qaF v=r.v->cl (qag CP (N+1) E) 70 [.ptr l 0,t.v,pv x] s=some (r.v,s'):=fun r v s' h1 h2=>by
   rw[qb0]
   exact qfn (cf:=cf70) (np:=3) (args':=[.ptr l 0,t.v,pv x]) (v:=v) (by kernel_rfl) (by kernel_rfl) rfl (by simp only[zap,qal];rfl) (by simp only[zam,qai];rfl) ((s70_eq _ _ _ _ _ _).trans h1) h2 (by rw[Tm.v_eq];rfl)
  have hcell:qas (qag CP N E).E s l=some (VC c w dn tok y):=qaX hs
  have hst:=qrk (o:=0) (cs:=[i64 (.ofNat (c+1))]) (new:=VC (c+1) w dn tok y) hs rfl rfl
  have beg:s70 (qag CP N E) N (.ptr l 0) t.v (pv x) s=s70_5 (qag CP N E) N (.ptr l 0) (i64 (.ofNat c)) (u8 1) 0 t.c [sw x.sn,i64 x.top] Zt [] [] [] {s with heap:=(l,.cells (VC (c+1) w dn tok y))::H}:=by
   unfold s70
   generalize s70_5 (qag CP N E) N=G
   simp -implicitDefEqProofs only[pvc,qd3,zaF,ldP hcell,vc0,qaO (show c<9223372036854775807 by omega),cni,hst,qah,qad,qay,zab,zaa,qbv]
  have hv0:Vs s tok y {s with heap:=(l,.cells (VC (c+1) w dn tok y))::H} tok y:=(Vs.refl hlg).heap _
  have rl:=qnV (N:=N) (E:=E) (x:=x) (t:=t) (c:=c) (l:=l) (w:=w) (dn:=dn) (H:=H) (by omega) (fun i hi s=>hMk i hi E s) {s with heap:=(l,.cells (VC (c+1) w dn tok y))::H} tok y rfl hlg (by omega)
  have hki0:∀s1 tok1 y1,KI s.ntok s1 0 0 tok1 y1:=fun _ _ _ h=>by omega
  have hoL:=qm9 x t c 0
  constructor
  ·intro hno
   rw[qk4] at hno⊢
   obtain⟨c22,s1,tok1,a1,a2,a3,a4⟩:=rl.1 (fun o ho=>hno o (List.mem_append_left _ ho))
   have hv1:=hv0.trans a4
   obtain⟨tk2,s3,tok3,d1,d2,d3,d4⟩:=qqm ih hKp htop hdk (by omega) t.ks [] [] 0 N 0 (c+1) dn 0 c22 [] s1 tok1 _ rfl rfl rfl (by omega) a2 (hki0 _ _ _) hv1 (by omega) (by rw[zay,za1];omega) hmk (fun o ho=>hno o (List.mem_append_right _ ho))
   rw[show c+1+Tm.sizeL t.ks=c+t.size by omega,zaT,<-qfy] at d2
   rw[zaT,<-qfy] at d4
   refine⟨s3,tok3,call t _ s3 (beg.trans (a1.trans ?_)) (qgw t t.ks tk2 rfl rfl),d2,d3.trans a3,d4⟩
   rw[s70_4_lp]
   exact d1
  ·intro o ho hw
   rw[qk4,zaO] at ho
   have hw2:w.2=o.2.1:=by rw[<-hw]
   rcases ho with ho|ho
   ·have hpl:=qiD ho
    obtain⟨s1,tok1,y1,a1,a2,a3,a4,a5⟩:=rl.2 o ho hw
    have e0:(o.2.1-Int.ofNat c).toNat=0:=by rw[hpl];simp only[zaf];omega
    rw[e0]
    have e1:Tm.put1 o.2.2 0 t=o.2.2:=by unfold Tm.put1;rfl
    rw[e1]
    refine⟨s1,tok1,c+1,y1,call o.2.2 _ s1 (beg.trans a1) (qai _),a2,a3,hv0.trans a4,by rw[hpl];simp only[zaf];omega,by omega,by omega⟩
   ·obtain⟨i,hi,hpl⟩:=qdd ho
    obtain⟨c22,s1,tok1,a1,a2,a3,a4⟩:=rl.1 (fun o' ho' he=>by
     have h1:=qiD ho'
     have:o'.2.1=w.2:=by rw[<-he]
     rw[hw2,h1,hpl] at this
     simp only[zaf] at this
     omega)
    have hv1:=hv0.trans a4
    obtain⟨tk2,s3,tok3,c3,y3,d1,d2,d3,d4,d5,d6,d7⟩:=qst ih hKp htop hdk (by omega) t.ks [] [] 0 N 0 (c+1) dn 0 c22 [] s1 tok1 _ rfl rfl rfl (by omega) a2 (hki0 _ _ _) hv1 (by omega) (by rw[zay,za1];omega) hmk o ho hw _ rfl
    rw[zay,za1] at d7
    have e0:(o.2.1-Int.ofNat c).toNat=(o.2.1-Int.ofNat (c+1)).toNat+1:=by rw[hpl];simp only[zaf];omega
    rw[e0,Tm.put1_succ]
    refine⟨s3,tok3,c3,y3,call _ (.agg (oc t (qb9 (fun i=>Tm.cellsL (([]++Tm.putL o.2.2 (o.2.1-Int.ofNat (c+1)).toNat t.ks).take i)) tk2 ([]++Tm.putL o.2.2 (o.2.1-Int.ofNat (c+1)).toNat t.ks).length))) s3 (beg.trans (a1.trans ?_)) ?_,d2,d3.trans a3,d4,d5,by omega,by omega⟩
    ·rw[s70_4_lp]
     exact d1
    ·exact qgw (t.with (Tm.putL o.2.2 (o.2.1-Int.ofNat (c+1)).toNat t.ks)) (Tm.putL o.2.2 (o.2.1-Int.ofNat (c+1)).toNat t.ks) tk2 rfl rfl
end Go.AI.Tryz
namespace Go.AI.Tryz
theorem qe7 {a:Ar}{t:Tm}(h:qbW a t=0):qbS a=0/\t.size<=600:=by
 unfold qbW at h
 split at h
 ·rename_i h0;exact absurd h h0
 ·rename_i h0
  split at h
  ·omega
  ·exact⟨by simpa using h0,by omega⟩
theorem qt6 {a:Ar}{t:Tm}(h:qbW a t=0)(ok:t.Ok)(h1:a.ids.length<=100000):Rd (qaE a) t:=by
 obtain⟨h2,h3⟩:=qe7 h
 refine⟨qjq h ok h1 (by omega),(qk0 h2).1,?_,?_,?_⟩
 ·simp only[qaE,za1];exact Int.le_refl _
 ·show(0:Int)+_<=_;omega
 ·simp only[qaE,za1];omega
theorem qnb:∀(d:Nat) (t:Tm) (x:Sc),t.size<=d->Rd x t->∀p∈qbp t x,Rd p.1 p.2
 |0,t,_,h,_=>by have:=t.size_pos;omega
 |d+1,t,x,hd,h=>by
  intro p hp
  rw[qcV,zaE] at hp
  rcases hp with rfl|hp
  ·exact h
  ·have hk:∀(r done:List Tm) (j:Nat),t.ks=done++r→done.length=j→∀p∈qbf (fun j=>x.kid t j) j r,Rd p.1 p.2:=by
    intro r
    induction r with
    |nil=>intro done j _ _ p hp;simp[qbf] at hp
    |cons u r ih=>
     intro done j h1 h2 p hp
     have hu:t.ks[j]? =some u:=by rw[h1,zaA (by omega),h2];simp
     have hlt:=qa3 (zaN hu)
     simp only[qbf,zaO] at hp
     rcases hp with hp|hp
     ·exact qnb d u (x.kid t j) (by omega) (h.kid hu) p hp
     ·exact ih (done++[u]) (j+1) (by rw[h1];simp) (by simp[h2]) p hp
   exact hk t.ks [] 0 rfl rfl p hp
theorem qnW {a:Ar}{t:Tm}(h:qbW a t=0)(ok:t.Ok)(h1:a.ids.length<=100000):Ev fun N=>qrI (qbp t (qaE a)) N t.size:=by
 have hr:=qt6 h ok h1
 have hR:=qnb t.size t (qaE a) (zan _) hr
 have h3:=(qe7 h).2
 refine qna hR (Ev.all _ fun p hp=>?_) t.size (by omega)
 have h22:Ev fun N=>∀i∈List.range 22,∀E s,cl (qag CP N E) 121 [pv p.1,u8 (.ofNat (i+1)),p.2.v] s=some (qcM (qbm i p.1 p.2),s):=Ev.all _ fun i hi=>qvS (hR p hp) i (za9.1 hi)
 exact(h22.and (qt3 (hR p hp))).mono fun N ⟨g1,g2⟩=>⟨fun i hi=>g1 i (za9.2 hi),g2⟩
theorem qt7 (a:Ar)(h1:a.ids.length<=1000000):PC CP 71 [a.v] (pv (qaE a)):=by
 have hf:=qm4 a h1
 rw[<-qiB] at hf
 refine PC.of2 (cf:=cf71) (np:=1) (args':=[a.v]) (by kernel_rfl) (by kernel_rfl) rfl rfl rfl (fun _=>rfl) (hf.mono fun N h E s=>⟨pv (qaE a),s,(s71_eq _ _ _ _).trans ?_,rfl⟩)
 have hl0:ldL [.p (.sl a.ids.length (qaQ Ty.cells a.ids)),bl a.root.cell,i64 a.root.n,bl a.jumps] 0 none=some (.p (.sl a.ids.length (qaQ Ty.cells a.ids))):=rfl
 have hb:∀l:List Sn,∀n:Int,bd [.sl 0 [] .full,i64 0] [(0,none,.c (sw l)),(1,none,.c (i64 n))]=some (.agg [sw l,i64 n]):=fun _ _=>rfl
 have ho:∀a b:zA,over [.sl 0 [] .full,i64 0] 0 [a,b]=some [a,b]:=fun _ _=>rfl
 have ht:(qaE a).top=Int.ofNat a.ids.length:=rfl
 unfold s71
 rw[pv,ht]
 simp only[qc1,qhZ,h,hl0,hb,pvc,ho,qjy,zaa,qab,qbo]
def qh0 (a:Ar)(t:Tm)(w:Rw):Tm×Bool:=match qfV a t w with
 |some u=>(u,true)
 |none=>(t,false)
theorem qrJ {a:Ar}{t:Tm}{w:Rw}(h:∀o∈qpH a t,(o.1,o.2.1)≠w):qfV a t w=none:=by
 rw[qfW]
 cases hf:(qdx (fun k=>decide (k=w.1)) 0 (qbp t (qaE a))).find? fun q=>decide (q.1=w.1)&&decide (q.2.1=w.2) with
 |none=>rfl
 |some q=>
  have h1:=List.mem_of_find?_eq_some hf
  have h2:=List.find?_some hf
  simp only[zag,decide_eq_true_eq] at h2
  rw[qe4,List.mem_filter] at h1
  exact absurd (by rw[h2.1,h2.2]) (h q h1.1)
theorem qnX (b:Bool):qa2 (some [bl b]) (some [bl b])=true:=by
 simp only[qa2,qdA,qfL,zat]
theorem qrK (a:Ar)(t:Tm)(w:Rw)(h:qbW a t=0)(ok:t.Ok)(h1:a.ids.length<=100000):PC CP 49 [a.v,t.v,rv w] (.tuple [(qh0 a t w).1.v,bl (qh0 a t w).2]):=by
 have h3:=(qe7 h).2
 have herr:∀(u:Tm) (b:Bool),qaF (.tuple [u.v,bl b])=.tuple [u.v,bl b]:=fun u b=>by rw[Tm.v_eq];rfl
 have hpl:∀(lo:Nat) (u:Tm) (b:Bool),qeD lo (.tuple [u.v,bl b])=true:=fun lo u b=>by rw[Tm.v_eq];rfl
 refine PC.of2 (cf:=cf49) (np:=3) (args':=[a.v,t.v,rv w]) (by kernel_rfl) (by kernel_rfl) rfl (by simp only[zap,qal];rfl) (by simp only[zam,qai];rfl) (fun lo=>hpl lo _ _)
  (((qt7 a (by omega)).and (qnW h ok h1)).mono fun N ⟨c71,hv⟩ E s=>?_)
 have hv:=hv t (qaE a) (zan _) (fun _ h=>h) E (qak s (.cells (VC 0 w false 0 []))) s.next s.heap 0 w false 0 [] rfl (fun h=>absurd rfl h) (by omega) (by simp only[zaC];omega)
 have hcw:zA.cells (some 2) (rv w)=some [u8 w.1,i64 w.2]:=rfl
 have hbd:bd [i64 0,u8 0,i64 0,bl false,.sl 0 [] .full] [(1,some 2,.c (rv w))]=some (.agg (VC 0 w false 0 [])):=rfl
 have hcc:zA.cells (some 5) (.agg (VC 0 w false 0 []))=some (VC 0 w false 0 []):=rfl
 have haw:(VC 0 w false 0 []).all qaY=true:=rfl
 have fin:∀(u:Tm) (b:Bool) (s1:ASt) (c:Nat) (tok:Nat) (y:List Rw),cl (qag CP N E) 70 [.ptr s.next 0,t.v,pv (qaE a)] (qak s (.cells (VC 0 w false 0 [])))=some (u.v,s1)->s1.heap=(s.next,.cells (VC c w b tok y))::s.heap->s49 (qag CP N E) N a.v t.v (rv w) s=some (.tuple [u.v,bl b],s1):=fun u b s1 c tok y e1 e2=>by
  have hc:qas (qag CP N E).E s1 s.next=some (VC c w b tok y):=qaX e2
  have hlf:loadFrom (qag CP N E).E .nil s1 (.ptr s.next 3) 1=some [bl b]:=by
   unfold loadFrom
   simp only[hc,zaa]
   rfl
  unfold s49
  simp -implicitDefEqProofs only[qc1,qhZ,qb2,hcw,qjy,hbd,hcc,haw,c71,e1,ldP hc,vc3,hlf,qnX,zat,qah,qau,zaa,qab,qbd,cnd]
 by_cases hex:∃o∈qpH a t,(o.1,o.2.1)=w
 ·obtain⟨o,ho,hw⟩:=hex
  obtain⟨s1,tok,c',y',e1,e2,_⟩:=hv.2 o ho hw
  have hd:qfV a t w=some (qhB o.2.2 o.2.1 t):=by rw[<-hw];exact qrA ho
  have hp:qhB o.2.2 o.2.1 t=Tm.put1 o.2.2 (o.2.1-Int.ofNat 0).toNat t:=by
   obtain⟨j,hj,hpl⟩:=qdd (c:=0) ho
   rw[qbP] at hj
   unfold qhB
   rw[hpl,if_pos ⟨by simp only[zaf];omega,by simp only[zaf];omega⟩]
   have e:Int.ofNat (0+j)-Int.ofNat 0=Int.ofNat (0+j):=by simp only[zaf];omega
   rw[e]
  have hG:qh0 a t w=(Tm.put1 o.2.2 (o.2.1-Int.ofNat 0).toNat t,true):=by unfold qh0;rw[hd,hp]
  rw[hG]
  exact⟨_,s1,(s49_eq _ _ _ _ _ _).trans (fin _ true s1 c' tok y' e1 e2),herr _ _⟩
 ·obtain⟨s1,tok,e1,e2,_⟩:=hv.1 (fun o ho he=>hex ⟨o,ho,he⟩)
  have hG:qh0 a t w=(t,false):=by unfold qh0;rw[qrJ fun o ho he=>hex ⟨o,ho,he⟩]
  rw[hG]
  exact⟨_,s1,(s49_eq _ _ _ _ _ _).trans (fin _ false s1 _ tok _ e1 e2),herr _ _⟩
end Go.AI.Tryz
namespace Go.AI.Tryz
theorem qxr:Tm.z.Ok:=.mk (by decide) (by decide) (by decide) (by decide) (by decide) (fun _ h=>by cases h)
end Go.AI.Tryz
namespace Go.AI.Tryz
open Go.Proofs
theorem qvU {n:Nat}{pcs:List zP}(h:HasT Go.Proofs.Tryz.prog n 46 pcs):∃w:Rw,rwC w=pcs/\(0<=w.1/\w.1<256)/\(-9223372036854775808<=w.2/\w.2<=9223372036854775807):=by
 obtain⟨m,ls,rfl,rfl,hl,hf⟩:=h.inv_struct Go.Proofs.Tryz.underlying46
 obtain⟨a,b,rfl⟩:=qjV hl
 obtain⟨k,rfl,wk⟩:=(hf 0 a _ rfl rfl).inv_int Go.Proofs.Tryz.underlying5
 obtain⟨x,rfl,wx⟩:=(hf 1 b _ rfl rfl).inv_int Go.Proofs.Tryz.underlying3
 exact⟨(k,x),rfl,wf8 wk,qvE wx⟩
def qt8:List TypeId:=[3,5,30,33,46]
theorem m33:33∈qt8:=by simp[qt8]
theorem lawTr_ok:qg3 Go.Proofs.Tryz.prog qt8=true:=by kernel_rfl
theorem arg_sl {P:Program}{ts:List TypeId}(hok:qg3 P ts=true){t e:TypeId}(ht:t∈ts)(hu:P.underlying t=some (.slice e)){H:Type}{enc:TypeId×Value->H}{w:World}{base base':Nat}{spare:Nat->Bool}{held:Bool}{r:Reach}{v:Value}{d:DataW H}{ps:List MemPlace}(ho:Value.okWide P w r base t v)(h:DataW.Trod enc P w base' spare held t v d ps):
  ∃n c,HasT P n t [c]/\VR G00 w (.p c) v:=by
 have hv:v.cells= #[v]:=by
  cases v with
  |agg cs=>
   unfold Value.okWide at ho
   rw[hu] at ho
   unfold Cell.okWide at ho
   rw[hu] at ho
   unfold Cell.ok at ho
   rw[hu] at ho
   exact ho.elim
  |_=>rfl
 obtain⟨fuel,h⟩:=h
 rw[hv] at h
 obtain⟨pcs,hp⟩:=qiq hok fuel t _ _ ht h
 obtain⟨h1,h2,h3,h4⟩:=hp
 obtain⟨c,rfl⟩:∃c,pcs=[c]:=by
  match pcs,h2 with
  |[c],_=>exact⟨c,rfl⟩
 exact⟨fuel,c,h1,.p c v ((h4 0 c v rfl rfl).mono fun ad u hu _=>⟨hu,trivial⟩)⟩
theorem has_rws {n:Nat}{c:zP}(h:HasT Go.Proofs.Tryz.prog n 33 [c]):∃ws:List Rw,c=.sl ws.length (qaQ rwC ws):=by
 obtain⟨m,ls,rfl,h1,_,he⟩:=h.inv_sl Go.Proofs.Tryz.underlying33
 obtain⟨ws,e1,e2,_⟩:=qhu (c:=rwC) (Q:=fun _=>True) ls fun l hl=>by
  obtain⟨w,e,_⟩:=qvU (he l hl)
  exact⟨w,e,trivial⟩
 refine⟨ws,?_⟩
 rw[e1,e2]
 exact(List.cons.inj h1).1
end Go.AI.Tryz
namespace Go.AI.Tryz
abbrev RT:=zA->Nat->List zA->List zA->List zA->List zA->ASt->Res
noncomputable def F34 (e:Env) (n:Nat) (x2:zA):RT->RT:=fun h28 x21 g22 c23 c24 c25 c26 s27=>
 (ln false x2).bind fun x29=>
 (bn .lss x21 x29).bind fun x30=>
 qae x30 ((ldL c23 0 (some 4)).bind fun x31=>
 (ldL c24 0 (some 5)).bind fun x32=>
 qac (iaV 2 x2 x21) fun q33 o34=>
 (ldH e s27 (.elem q33 o34) (some 2)).bind fun x35=>
 qac (cl e 49 [x31,x32,x35] s27) fun x36 s37=>
 (ex x36 0).bind fun x38=>
 (ex x36 1).bind fun x39=>
 (zA.cells (some 5) x38).bind fun c40=>
 cnd (Nat.beq (g22+1) (g22+1)) ((over [(u8 0),(i64 0),(i64 0),(i64 0),(.sl 0 [] .full)] 0 c40).bind fun c41=>
 (nt x39).bind fun x42=>
 qae x42 ((bd [(u8 0),(i64 0),(i64 0),(i64 0),(.sl 0 [] .full)] []).bind fun x43=>
 (zA.cells (some 5) x43).bind fun c44=>
 (over c25 0 c44).bind fun c45=>
 (ldL c45 0 (some 5)).bind fun x46=>
 some (.tuple [x46,x21,(i64 7)],s37))
 (cnd (Nat.beq (g22+1) (g22+1)) ((ldL c41 0 (some 5)).bind fun x47=>
 (zA.cells (some 5) x47).bind fun c48=>
 (over c24 0 c48).bind fun c49=>
 (bn .add x21 (i64 1)).bind fun x50=>
 h28 x50 (g22+1) c23 c49 c25 c41 s37) none)) none)
 ((ldL c24 0 (some 5)).bind fun x51=>
 qac (cl e 15 [x51] s27) fun x52 s53=>
 (ln false x2).bind fun x54=>
 (zA.cells (some 5) x52).bind fun c55=>
 (over c25 0 c55).bind fun c56=>
 (ldL c56 0 (some 5)).bind fun x57=>
 some (.tuple [x57,x54,(i64 0)],s53))
theorem s34_0_lp (e:Env)(n:Nat)(x2:zA):s34_0 e n x2=lp (fun _ _ _ _ _ _ _=>none) (F34 e n x2) n:=rfl
theorem qhA (a:Ar)(oa:a.Ok)(h1:a.ids.length<=100000)(ws:List Rw)(hw:ws.length<=2000):
  ∀(r:List Rw) (t:Tm) (j:Nat),Right a t->t.size<=100000->ws.drop j=r->j<=ws.length->
   Ev fun n=>∀E s k g c26,r.length<k->∃v,lp (fun _ _ _ _ _ _ _=>none) (F34 (qag CP n E) n (logP ws)) k (i64 (.ofNat j)) g (ac a) t.c Zt c26 s=some (v,s)/\qaF v=qnS (qfx a r t j)
 |[],t,j,ht,hs,hd,hj=>(qr9 t (by omega)).mono fun n hcp E s k g c26 hk=>by
  obtain⟨k,rfl⟩:∃k',k=k'+1:=⟨k-1,by omega⟩
  have hjl:j=ws.length:=by
   have:=congrArg List.length hd
   simp only[List.length_drop,zaC] at this
   omega
  have h3:¬(Int.ofNat j<Int.ofNat ws.length):=fun hh=>by have:=of_lt.1 hh;omega
  refine⟨qnS (qfx a [] t j),?_,qso _⟩
  rw[qa5]
  generalize lp _ _ k=L
  unfold F34
  simp -implicitDefEqProofs only[h3,qb2,hcp,qfx,qah,qau,qad,qap,qay,decide_false,qaa,cond_false,zab,zaa,qab,qbo,cnd]
  rw[hjl]
 |w::r,t,j,ht,hs,hd,hj=>by
  have hjl:j<ws.length:=by
   rcases zbi j ws.length with h|h
   ·exact h
   ·rw[List.drop_eq_nil_of_le h] at hd;cases hd
  have hwj:ws[j]=w/\ws.drop (j+1)=r:=by
   rw[zaz hjl] at hd
   simp only[List.cons.injEq] at hd
   exact hd
  have hdn:=qrK a t w ht.c ht.ok h1
  have hld:∀n E s,ldH (qag CP n E) s (.elem (qaQ rwC ws) (j*2)) (some 2)=some (rv w):=fun n E s=>by
   have:=qdr (c:=rwC) (sz:=2) (fun _=>rfl) (qag CP n E) s (zah hjl)
   rw[hwj.1] at this
   exact this
  cases hr:qfV a t w with
  |none=>
   have hG:qh0 a t w=(t,false):=by unfold qh0;rw[hr]
   rw[hG] at hdn
   refine hdn.mono fun n hdn E s k g c26 hk=>?_
   obtain⟨k,rfl⟩:∃k',k=k'+1:=⟨k-1,by omega⟩
   refine⟨.tuple [zT,i64 (.ofNat j),i64 7],?_,by simp only[qfx,hr];rfl⟩
   rw[qa5]
   generalize lp _ _ k=L
   unfold F34
   simp -implicitDefEqProofs only[of_lt.2 hjl,qbV hjl,hld,qhZ,qb2,hdn,za6,bdZ,z5c,z5o,z5l,qah,qau,qad,qap,qay,decide_true,zal,qaa,cond_true,zab,zaa,qab,qan,qaw,qax,qam,qbo,cnd]
  |some t'=>
   have hG:qh0 a t w=(t',true):=by unfold qh0;rw[hr]
   rw[hG] at hdn
   obtain⟨ht',hs'⟩:=qlV ht h1 hs hr
   refine(hdn.and (qhA a oa h1 ws hw r t' (j+1) ht' (by omega) hwj.2 (by omega))).mono fun n ⟨hdn,ih⟩ E s k g c26 hk=>?_
   obtain⟨k,rfl⟩:∃k',k=k'+1:=⟨k-1,by omega⟩
   obtain⟨v,e,he⟩:=ih E s k (g+1) t'.c (by simp only[zar] at hk;omega)
   refine⟨v,?_,by simp only[qfx,hr];exact he⟩
   rw[qa5]
   generalize lp _ _ k=L at e⊢
   unfold F34
   have ho:over t.c 0 t'.c=some t'.c:=rfl
   simp -implicitDefEqProofs only[of_lt.2 hjl,qbV hjl,hld,qhZ,qb2,hdn,za6,ho,qaO (show j<9223372036854775807 by omega),qah,qau,qad,qap,qay,decide_true,zak,qaa,cond_true,cond_false,zab,zaa,qab,qan,qaw,qax,qam,qbo,cnd]
   exact e
theorem qrL (a:Ar)(t:Tm)(ws:List Rw)(oa:a.Ok)(ok:t.Ok)(h1:a.ids.length<=100000)(hs:t.size<=100000):PC CP 34 [a.v,t.v,logP ws] (qnS (qkU a t ws)):=by
 unfold qkU
 by_cases hc:qbW a t=0
 ·rw[if_pos hc]
  by_cases hlen:2000<ws.length
  ·rw[if_pos hlen]
   refine PC.of2 (cf:=cf34) (np:=3) (args':=[a.v,t.v,logP ws]) (by kernel_rfl) (by kernel_rfl) rfl (by simp only[zap,qal];rfl) (by simp only[zam,qai];rfl) (fun lo=>qiA lo _)
    ((qjx a t oa ok h1 hs).mono fun n c46 E s=>⟨.tuple [zT,i64 0,i64 5],s,(s34_eq _ _ _ _ _ _).trans ?_,rfl⟩)
   rw[hc] at c46
   have e:((2000:Int)<Int.ofNat ws.length):=by simp only[zaf];omega
   unfold s34
   generalize s34_0 (qag CP n E) n=G
   simp -implicitDefEqProofs only[qc1,qhZ,qb2,c46,e,bdZ,z5c,z5o,z5l,qah,qad,qa6,qaC,decide_true,zak,qaa,cond_true,cond_false,zab,zaa,qab,qbo]
  ·rw[if_neg hlen]
   refine PC.of2 (cf:=cf34) (np:=3) (args':=[a.v,t.v,logP ws]) (by kernel_rfl) (by kernel_rfl) rfl (by simp only[zap,qal];rfl) (by simp only[zam,qai];rfl) (fun lo=>qiA lo _)
    (((qjx a t oa ok h1 hs).and ((qhA a oa h1 ws (by omega) ws t 0 ⟨hc,ok⟩ hs rfl (za3 _)).and (Ev.ge 2001))).mono fun n ⟨c46,hlp,hn⟩ E s=>?_)
   rw[hc] at c46
   obtain⟨v,e,he⟩:=hlp E s n 0 [] (by omega)
   refine⟨v,s,(s34_eq _ _ _ _ _ _).trans ?_,he⟩
   have e2:¬((2000:Int)<Int.ofNat ws.length):=by simp only[zaf];omega
   rw[<-s34_0_lp] at e
   unfold s34
   generalize s34_0 (qag CP n E) n=G at e⊢
   simp -implicitDefEqProofs only[qc1,qhZ,qb2,c46,e2,qah,qad,qa6,qaC,decide_true,decide_false,zak,qaa,cond_false,zab,zaa,qab,qbo]
   exact e
 ·rw[if_neg hc]
  refine PC.of2 (cf:=cf34) (np:=3) (args':=[a.v,t.v,logP ws]) (by kernel_rfl) (by kernel_rfl) rfl (by simp only[zap,qal];rfl) (by simp only[zam,qai];rfl) (fun lo=>qiA lo _)
   ((qjx a t oa ok h1 hs).mono fun n c46 E s=>⟨.tuple [zT,i64 0,i64 (qbW a t)],s,(s34_eq _ _ _ _ _ _).trans ?_,rfl⟩)
  unfold s34
  generalize s34_0 (qag CP n E) n=G
  simp -implicitDefEqProofs only[qc1,qhZ,qb2,c46,hc,bdZ,z5c,z5o,z5l,qah,qad,qa6,qaC,decide_false,zal,qaa,cond_true,zab,zaa,qab,qbo]
theorem qnc {a:Ar}(h1:a.ids.length<=100000):∀(ws:List Rw) (t:Tm) (j:Nat),Right a t->t.size<=100000->(qfx a ws t j).1.Ok
 |[],t,j,h,_=>h.ok
 |w::r,t,j,h,hs=>by
  unfold qfx
  cases hd:qfV a t w with
  |none=>exact qxr
  |some u=>
   obtain⟨g1,g2⟩:=qlV h h1 hs hd
   exact qnc h1 r u (j+1) g1 (by omega)
theorem qrM {a:Ar}{t:Tm}(ok:t.Ok)(h1:a.ids.length<=100000)(hs:t.size<=100000)(ws:List Rw):(qkU a t ws).1.Ok:=by
 unfold qkU
 split
 ·rename_i hc
  split
  ·exact qxr
  ·exact qnc h1 ws t 0 ⟨hc,ok⟩ hs
 ·exact qxr
theorem qt9 {e:Env}(n:Nat)(s:ASt){a:Ar}{t:Tm}{ws:List Rw}(hl:ws.length<=100000)(c14:∀s,cl e 14 [a.v] s=some (a.v,s))(c15:∀s,cl e 15 [t.v] s=some (t.v,s)){r:Tm×Int×Int}
  (c33:∀s',cl e 33 [a.v,t.v,.sl ws.length (qaQ rwC ws) (tkO s ws.length)] s'=some (qnS r,s'))(c34:∀s,cl e 34 [a.v,t.v,logP ws] s=some (qnS r,s))(c19:∀s,cl e 19 [r.1.v,r.1.v] s=some (bl true,s))(h12:∀s,cl e 12 [] s=some (bl true,s)):
  s8_1 e n (ac a) t.c (logP ws) (bl false) s=some (bl true,stO s ws.length 2):=by
 have hap:=qxk e (sz:=2) (b:=16) s (qtK ws) (by omega)
 obtain⟨u,j,er⟩:=r
 unfold s8_1 s8_0
 simp -implicitDefEqProofs only[qhZ,qb2,c14,c15,hap,c33,c34,c19,h12,l3_0,l3_1,l3_2,qah,qau,qad,qaf,decide_true,qaa,cond_true,cond_false,qaj,zab,zaa,qab,qan]
theorem redoes_ev (a:Ar)(t:Tm)(ws:List Rw)(oa:a.Ok)(ok:t.Ok):Ev fun n=>∀e,Lw n e->∃s',s8 e n a.v t.v (logP ws) s00=some (bl true,s'):=by
 have hth:=qu0 a t oa ok
 have aw:∀(n:Nat) (e:Env),Lw n e->s8_1 e n (ac a) t.c (logP ws) (bl true) s00=some (bl true,s00):=fun n e he=>by
  have h12:=he.a
  unfold s8_1
  simp -implicitDefEqProofs only[h12,qaS,qaa,cond_true,qaj,zaa,qab]
 cases hb:qnC a t with
 |false=>
  rw[hb] at hth
  refine hth.mono fun n h e he=>⟨s00,?_⟩
  have h:=he.c (by decide) h
  have aw:=aw n e he
  unfold s8
  generalize s8_1 e n=G at aw⊢
  simp -implicitDefEqProofs only[qc1,qhZ,qb2,h,qah,qad,qaC,qbc,zal,qaa,cond_true,qaj,zab,zaa,qab,qam,qbo]
  exact aw
 |true=>
  rw[hb] at hth
  by_cases hg:ws.length<=100\/(2000<ws.length/\ws.length<=3000)
  ·obtain⟨h1,h2,h3⟩:=qnT hb
   have hA:=qs2 a (by omega) (fun t ht=>by have:=h2 t ht;omega)
   have hT:=qr9 t (by omega)
   have h33:=qvD a t ws (.sl ws.length (qaQ rwC ws) (tkO s00 ws.length)) rfl rfl (by omega) oa ok (by omega) (by omega)
   have h34:=qrL a t ws oa ok (by omega) (by omega)
   have h19:=qo1 (qkU a t ws).1 (qkU a t ws).1 (qrM ok (by omega) (by omega) ws)
   refine((hth.and (hA.and hT)).and (h33.and (h34.and h19))).mono fun n ⟨⟨c11,c14,c15⟩,c33,c34,c19⟩ e he=>⟨stO s00 ws.length 2,?_⟩
   have c11:=he.c (by decide) c11
   have c19:=he.c (by decide) c19
   rw[decide_eq_true rfl] at c19
   have hgo:=qt9 n s00 (by omega) (he.c (by decide) c14) (he.c (by decide) c15) (he.c (by decide) c33) (he.c (by decide) c34) c19 he.a
   unfold s8
   generalize s8_1 e n=G at hgo⊢
   rcases hg with hg|hg
   ·have q1:¬((100:Int)<Int.ofNat ws.length):=by simp only[zaf];omega
    have q2:¬((3000:Int)<Int.ofNat ws.length):=by simp only[zaf];omega
    simp -implicitDefEqProofs only[qc1,qhZ,qb2,c11,q1,q2,qah,qad,qaC,qbc,decide_false,zak,qaa,cond_false,qaj,zab,zaa,qab,qam,qbo]
    exact hgo
   ·have q1:(100:Int)<Int.ofNat ws.length:=by simp only[zaf];omega
    have q2:¬((3000:Int)<Int.ofNat ws.length):=by simp only[zaf];omega
    have q3:(2000:Int)<Int.ofNat ws.length:=by simp only[zaf];omega
    simp -implicitDefEqProofs only[qc1,qhZ,qb2,c11,q1,q2,q3,qah,qad,qaC,qbc,decide_true,decide_false,zak,qaa,cond_true,cond_false,qaj,zab,zaa,qab,qam,qbo]
    exact hgo
  ·refine hth.mono fun n h e he=>⟨s00,?_⟩
   have h:=he.c (by decide) h
   have aw:=aw n e he
   unfold s8
   generalize s8_1 e n=G at aw⊢
   have q1:(100:Int)<Int.ofNat ws.length:=by simp only[zaf];omega
   by_cases q3:(2000:Int)<Int.ofNat ws.length
   ·have q2:(3000:Int)<Int.ofNat ws.length:=by simp only[zaf] at q3⊢;omega
    simp -implicitDefEqProofs only[qc1,qhZ,qb2,h,q1,q2,q3,qah,qad,qaC,qbc,decide_true,zak,qaa,cond_true,cond_false,qaj,zab,zaa,qab,qam,qbo]
    exact aw
   ·simp -implicitDefEqProofs only[qc1,qhZ,qb2,h,q1,q3,qah,qad,qaC,qbc,decide_true,decide_false,zak,zal,qaa,cond_true,cond_false,qaj,zab,zaa,qab,qam,qbo]
    exact aw
end Go.AI.Tryz
