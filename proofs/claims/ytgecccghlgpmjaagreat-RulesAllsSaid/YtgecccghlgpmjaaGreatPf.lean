/- Part 6: what the functions of the program compute, function by function. No condition. -/
import Derived.Test.YtgecccghlgpmjaaGreatPe
set_option linter.unusedVariables false
set_option linter.unusedSimpArgs false
open Bool renaming and_eq_true→zag,false_eq_true→zai,not_true→zak,not_false→zal,and_self→zat,false_and→zav,true_and→zay,not_eq_true→zaS,and_false→zaT,false_or→za6
open Int renaming ofNat_eq_natCast→zaf,reduceEq→zaj
open List renaming getElem?_eq_getElem→zah,map_cons→zam,getElem?_eq_some_iff→zao,all_cons→zap,length_cons→zar,getElem?_cons_zero→zas,mem_cons_self→zau,length_append→zaw,mem_cons_of_mem→zax,drop_eq_getElem_cons→zaz,mem_cons→zaA,length_nil→zaB,getElem?_append_right→zaC,cons_append→zaF,append_assoc→zaH,mem_append→zaI,nil_append→zaJ,mem_of_getElem?→zaM,length_map→zaZ,getElem_mem→za4,getElem?_map→za9,mem_range→zba,append_nil→zbg,map_nil→zbn
open Nat renaming le_refl→zan,zero_add→zaK,lt_irrefl→zaX,zero_le→zaY,beq_refl→za8,lt_succ_self→zbe,le_trans→zbf,lt_or_ge→zbi,add_zero→zbk
open Option renaming bind_some→zaa,map_some→zab,map_eq_some_iff→zad,getD_some→zaE,isSome_none→zaG,getD_none→zaR,isSome_some→zbj
open Option.some renaming injEq→zac
open Prod.mk renaming injEq→zaq
namespace Go.AI.Tryz
def qqI (r:Int)(x:Sc)(t:Tm):Option Tm:=if r=14 then qf4 x t else if r=15 then qod x t else if r=16 then qiD x t else none
theorem qmd {b:Bool}{n:Nat}{z:Int}(h:Cm b n 0 z):decide (z=0)=!b/\decide (0<z)=b:=by
 have h1:=h.ge
 have h2:=h.pos
 cases b with
 |true=>
  have:0<z:=h2.2 (.inr rfl)
  exact⟨decide_eq_false (by omega),decide_eq_true this⟩
 |false=>
  have:¬0<z:=fun q=>by
   rcases h2.1 q with g|g
   ·omega
   ·cases g
  exact⟨decide_eq_true (by omega),decide_eq_false this⟩
theorem qun {x:Sc}{n m:Int}{u:Tm}(h:Rd x (.new n m u))(r:Int):PC CP 179 [pv x,u8 r,(Tm.new n m u).v] (qc8 (qqI r x (.new n m u))):=by
 have hku:=h.kid (j:=0) (u:=u) rfl
 have hus:=qa5 (t:=.new n m u) (u:=u) (by simp[Tm.ks])
 have hle:=h.len
 let id:Int:=Int.ofNat x.ids.length+1
 have eU:qf4 x (.new n m u)=if okU (qfl id u) then some (woF id (.num m n) u) else none:=rfl
 have eR:qod x (.new n m u)=if qrP (qfl id u) then some (woF id (.num m n) u) else none:=rfl
 have eW:qiD x (.new n m u)=if qrQ (qfl id u) then some (woF id (.num m n) u) else none:=rfl
 have h0:(0:Int)<=id:=by show(0:Int)<=Int.ofNat _+1;simp only[zaf];omega
 refine PC.of2 (cf:=cf179) (np:=3) (args':=[pv x,u8 r,(Tm.new n m u).v]) (by kernel_rfl) (by kernel_rfl) rfl (by simp only[zap,qak];rfl) (by simp only[zam,qai];rfl) (fun lo=>qaW lo _)
  (((qnx id u.size (by omega)).and ((qle m n).and (qsS id h0 (.num m n) u.size u _ (zan _) hku.nd))).mono fun N ⟨c201,c176,c202⟩ E s=>?_)
 obtain⟨s1,e1,a,p,hh,es,m1,m2,m3⟩:=c201 u (zan _) E (qal s (.cells [i64 0,i64 0,i64 0])) s.next s.heap 0 0 0 rfl (by omega) (by omega) (by omega)
 have d1:=qmd m1
 have d2:=qmd m2
 have d3:=qmd m3
 have eN:qfl id u=⟨u.any (isA id) 0,u.any (isP id) 0,u.any (isH id) 0⟩:=rfl
 have hw:qbb .i64 (Int.ofNat x.sn.length+1)=id:=by
  rw[qqx]
  exact qbu (by simp only[zaf];omega) (by simp only[zaf];omega)
 have hc:qar (qag CP N E).E s1 s.next=some [i64 a,i64 p,i64 hh]:=by rw[es];exact qaS rfl
 have q0:ldL [i64 a,i64 p,i64 hh] 0 none=some (i64 a):=rfl
 have q1:ldL [i64 a,i64 p,i64 hh] 1 none=some (i64 p):=rfl
 have q2:ldL [i64 a,i64 p,i64 hh] 2 none=some (i64 hh):=rfl
 obtain⟨i0,l0⟩:=qb8 (n:=N) (E:=E) (l:=[u]) (u:=u) rfl
 have hbd:bd [i64 0,i64 0,i64 0] []=some (.agg [i64 0,i64 0,i64 0]):=rfl
 have hc3:zA.cells (some 3) (.agg [i64 0,i64 0,i64 0])=some [i64 0,i64 0,i64 0]:=rfl
 have haw:[i64 0,i64 0,i64 0].all qaY=true:=rfl
 refine⟨qiL (qqI r x (.new n m u)),s1,(s179_eq _ _ _ _ _ _).trans ?_,qcn _⟩
 unfold s179 s179_5 s179_4 s179_3 s179_2 s179_1 s179_0 qqI
 rw[eU,eR,eW,eN]
 unfold okU qrP qrQ
 simp only[]
 by_cases r14:r=14
 ·simp -implicitDefEqProofs only[pvc,bs0,hw,hbd,hc3,haw,i0,l0,e1,r14,ldP hc,q0,q1,q2,d1,d2,d3,c176,c202,if_true,qah,qaU,qb1,qef,qbj,qav,qad,qaf,qaw,zaj,decide_true,decide_false,zal,qaa,cond_true,cond_false,qaj,zab,zaa,qab,qam,qbq,qa3,cnd,Tm.n_mk,Tm.m_mk,Tm.ks_mk]
  cases u.any (isA id) 0<;>cases u.any (isP id) 0<;>cases u.any (isH id) 0<;>simp -implicitDefEqProofs only[bdZ,z5c,z5o,z5l,qa4,qaA,zat,zaT,zav,if_true,if_false,zai,zak,zal,cond_true,cond_false,zaa]
 ·by_cases r15:r=15
  ·simp -implicitDefEqProofs only[pvc,bs0,hw,hbd,hc3,haw,i0,l0,e1,r15,ldP hc,q0,q1,q2,d1,d2,d3,c176,c202,if_true,if_false,qah,qaU,qb1,qef,qbj,qav,qad,qaf,qaG,qaw,zaj,decide_true,decide_false,zal,qaa,cond_true,cond_false,qaj,zab,zaa,qab,qam,qbq,qa3,cnd,Tm.n_mk,Tm.m_mk,Tm.ks_mk]
   cases u.any (isA id) 0<;>cases u.any (isP id) 0<;>cases u.any (isH id) 0<;>simp -implicitDefEqProofs only[bdZ,z5c,z5o,z5l,qa4,qaA,zat,zaT,zav,if_true,if_false,zai,zak,zal,cond_true,cond_false,zaa]
  ·by_cases r16:r=16
   ·simp -implicitDefEqProofs only[pvc,bs0,hw,hbd,hc3,haw,i0,l0,e1,r16,ldP hc,q0,q1,q2,d1,d2,d3,c176,c202,if_true,if_false,qah,qaU,qb1,qef,qbj,qav,qad,qaf,qaG,qaw,zaj,decide_true,decide_false,zal,qaa,cond_true,cond_false,qaj,zab,zaa,qab,qam,qbq,qa3,cnd,Tm.n_mk,Tm.m_mk,Tm.ks_mk]
    cases u.any (isA id) 0<;>cases u.any (isP id) 0<;>cases u.any (isH id) 0<;>simp -implicitDefEqProofs only[bdZ,z5c,z5o,z5l,qa4,qaA,zat,zaT,zav,if_true,if_false,zai,zak,zal,cond_true,cond_false,zaa]
   ·simp -implicitDefEqProofs only[pvc,bs0,hw,hbd,hc3,haw,i0,l0,e1,r14,r15,r16,bdZ,z5c,z5o,z5l,qaA,if_false,qah,qbj,qad,qaf,qaw,decide_false,zal,qaa,cond_true,cond_false,qaj,zab,zaa,qab,qam,qbq,qa3,cnd,Tm.ks_mk]
end Go.AI.Tryz
namespace Go.AI.Tryz
def qwW (r:Int)(x:Sc)(t:Tm):Option Tm:=if r=2 then asR t else if r=3 then qh1 x t else none
def qwX (r:Int)(t:Tm):Option Tm:=if r=13 then qe0 t else none
def qwY (r:Int)(t:Tm):Option Tm:=if r=18 then qe1 t else if r=19 then qh6 t else none
def qwZ (r:Int)(x:Sc)(t:Tm):Option Tm:=if r=20 then qdJ x t else none
def qw0 (r:Int)(t:Tm):Option Tm:=if r=21 then qdI t else if r=22 then qez t else none
def ruK (r:Int)(x:Sc)(t:Tm):Option Tm:=
 if t.k=5 then qwl r x t else if t.k=6 then qwW r x t else if t.k=8 then qwV r x t else if t.k=7 then qr7 r x t else if t.k=9 then qwX r t else if t.k=10 then qqI r x t
 else if t.k=11 then qwY r t else if t.k=18 then qwZ r x t else if t.k=13 then qw0 r t else none
theorem qwo (x:Sc)(t:Tm):∀i,i<22->qbn i x t=ruK (Int.ofNat (i+1)) x t:=by
 have hk:t.k=5\/t.k=6\/t.k=8\/t.k=7\/t.k=9\/t.k=10\/t.k=11\/t.k=18\/t.k=13\/(t.k≠5/\t.k≠6/\t.k≠8/\t.k≠7/\t.k≠9/\t.k≠10/\t.k≠11/\t.k≠18/\t.k≠13):=by omega
 intro i hi
 have hi2:i=0\/i=1\/i=2\/i=3\/i=4\/i=5\/i=6\/i=7\/i=8\/i=9\/i=10\/i=11\/i=12\/i=13\/i=14\/i=15\/i=16\/i=17\/i=18\/i=19\/i=20\/i=21:=by omega
 rcases hi2 with rfl|rfl|rfl|rfl|rfl|rfl|rfl|rfl|rfl|rfl|rfl|rfl|rfl|rfl|rfl|rfl|rfl|rfl|rfl|rfl|rfl|rfl<;>rcases hk with h|h|h|h|h|h|h|h|h|h<;>
  simp[qbn,ruK,qwl,qwW,qwV,qr7,qwX,qqI,qwY,qwZ,qw0,opR,asR,qh1,qc0,qh2,ifR,qh3,qob,qh4,qh5,qf0,qf1,qe0,qf4,qod,qiD,clR,qdS,qe1,qh6,qdJ,qdI,qez,h]
theorem qme {x:Sc}{t:Tm}{r:Int}{o:Option Tm}(h:Ev fun N=>∀E s,∃v,s121 (qag CP N E) N (pv x) (u8 r) t.v s=some (v,s)/\qaD v=qc8 o):PC CP 121 [pv x,u8 r,t.v] (qc8 o):=
 PC.of2 (cf:=cf121) (np:=3) (args':=[pv x,u8 r,t.v]) (by kernel_rfl) (by kernel_rfl) rfl (by simp only[zap,qak];rfl) (by simp only[zam,qai];rfl) (fun lo=>qaW lo _)
  (h.mono fun N h E s=>by
   obtain⟨v,h1,h2⟩:=h E s
   exact⟨v,s,(s121_eq _ _ _ _ _ _).trans h1,h2⟩)
theorem qgJ {x:Sc}{t:Tm}{r:Int}{o:Option Tm}(h5:t.k=5->PC CP 174 [u8 r,t.v] (qc8 o))(h8:t.k=8->PC CP 177 [pv x,u8 r,t.v] (qc8 o))(h7:t.k=7->PC CP 178 [pv x,u8 r,t.v] (qc8 o))(h10:t.k=10->PC CP 179 [pv x,u8 r,t.v] (qc8 o))
  (hk:t.k=5\/t.k=8\/t.k=7\/t.k=10):PC CP 121 [pv x,u8 r,t.v] (qc8 o):=by
 refine qme ?_
 rcases hk with h|h|h|h
 ·refine(h5 h).mono fun N c E s=>⟨qc8 o,?_,qaP o⟩
  unfold s121 s121_13 s121_12 s121_11 s121_10 s121_9 s121_8 s121_7 s121_6 s121_5 s121_4 s121_3 s121_2 s121_1 s121_0
  simp -implicitDefEqProofs only[pvc,qb3,h,c,qah,qbc,qb1,qbj,qav,qad,qaf,zaj,decide_true,decide_false,qaa,cond_true,cond_false,qaj,zab,zaa,qab,qan,qax,qay,qaC]
 ·refine(h8 h).mono fun N c E s=>⟨qc8 o,?_,qaP o⟩
  unfold s121 s121_13 s121_12 s121_11 s121_10 s121_9 s121_8 s121_7 s121_6 s121_5 s121_4 s121_3 s121_2 s121_1 s121_0
  simp -implicitDefEqProofs only[pvc,qjK,qb3,h,c,qah,qbc,qb1,qbj,qav,qad,qaf,zaj,decide_true,decide_false,qaa,cond_true,cond_false,qaj,zab,zaa,qab,qan,qax,qay,qaC]
 ·refine(h7 h).mono fun N c E s=>⟨qc8 o,?_,qaP o⟩
  unfold s121 s121_13 s121_12 s121_11 s121_10 s121_9 s121_8 s121_7 s121_6 s121_5 s121_4 s121_3 s121_2 s121_1 s121_0
  simp -implicitDefEqProofs only[pvc,qjK,qb3,h,c,qah,qbc,qb1,qbj,qav,qad,qaf,zaj,decide_true,decide_false,qaa,cond_true,cond_false,qaj,zab,zaa,qab,qan,qax,qay,qaC]
 ·refine(h10 h).mono fun N c E s=>⟨qc8 o,?_,qaP o⟩
  unfold s121 s121_13 s121_12 s121_11 s121_10 s121_9 s121_8 s121_7 s121_6 s121_5 s121_4 s121_3 s121_2 s121_1 s121_0
  simp -implicitDefEqProofs only[pvc,qjK,qb3,h,c,qah,qbc,qb1,qbj,qav,qad,qaf,zaj,decide_true,decide_false,qaa,cond_true,cond_false,qaj,zab,zaa,qab,qan,qax,qay,qaC]
theorem qup {x:Sc}{t:Tm}{r:Int}(hk:t.k≠5/\t.k≠6/\t.k≠8/\t.k≠7/\t.k≠9/\t.k≠10/\t.k≠11/\t.k≠18/\t.k≠13):PC CP 121 [pv x,u8 r,t.v] (qc8 none):=by
 refine qme (ev0.mono fun N _ E s=>⟨qiL none,?_,qcn _⟩)
 unfold s121 s121_13 s121_12 s121_11 s121_10 s121_9 s121_8 s121_7 s121_6 s121_5 s121_4 s121_3 s121_2 s121_1 s121_0
 simp -implicitDefEqProofs only[pvc,hk,bdZ,z5c,z5o,z5l,qaA,qah,qaU,qbc,qb1,qbj,qad,qaf,decide_false,qaa,cond_false,qaj,zab,zaa]
theorem quq {x:Sc}{n:Int}{u:Tm}(h:Rd x (.az n u))(r:Int):PC CP 121 [pv x,u8 r,(Tm.az n u).v] (qc8 (qwW r x (.az n u))):=by
 have hs:=h.nd.gd.sz (by simp[Tm.k]) (by simp[Tm.k])
 rw[qeR] at hs
 simp only[zag,isSize_iff] at hs
 have hn0:n≠0:=by omega
 have e2:asR (.az n u)=if qaI u then some (.num (u.n.tmod n) n) else none:=rfl
 have e3:qh1 x (.az n u)=if !qaI u&&decide ((szF x u).1=n) then some u else none:=rfl
 refine qme (((qbZ u).and ((qle (u.n.tmod n) n).and ((h.sub (j:=0) (u:=u) rfl (by simp[Tm.k])).psize (quO hs.1)))).mono fun N ⟨c1,c2,c3⟩ E s=>⟨qiL _,?_,qcn _⟩)
 obtain⟨i0,l0⟩:=qb8 (n:=N) (E:=E) (l:=[u]) (u:=u) rfl
 have f0:=fun s=>(kf (n:=N) (E:=E) (l:=[u]) (j:=0) (u:=u) rfl s).2.1
 unfold s121 s121_13 s121_12 s121_11 s121_10 s121_9 s121_8 s121_7 s121_6 s121_5 s121_4 s121_3 s121_2 s121_1 s121_0 qwW
 rw[e2,e3]
 generalize (szF x u).1=z at c3⊢
 by_cases r2:r=2
 ·by_cases q:qaI u=true
  ·simp -implicitDefEqProofs only[pvc,i0,l0,f0,r2,c1,c2,q,qet _ _ _ hn0,qb3,qa4,if_true,qah,qbc,qb1,qbj,qav,qad,qaf,zaj,decide_true,decide_false,zak,qaa,cond_true,cond_false,qaj,zab,zaa,qab,Tm.k_mk,Tm.n_mk,Tm.ks_mk]
  ·simp only[zaS] at q
   simp -implicitDefEqProofs only[pvc,i0,l0,f0,r2,c1,q,bdZ,z5c,z5o,z5l,qaA,if_true,if_false,zai,qah,qaU,qbc,qb1,qbj,qad,qaf,zaj,decide_true,decide_false,zal,qaa,cond_true,cond_false,qaj,zab,zaa,qab,Tm.k_mk,Tm.n_mk,Tm.ks_mk]
 ·by_cases r3:r=3
  ·by_cases q:qaI u=true
   ·simp -implicitDefEqProofs only[pvc,i0,l0,r3,c1,q,bdZ,z5c,z5o,z5l,qaA,zav,if_true,if_false,zai,qah,qaU,qbc,qb1,qbj,qav,qad,qaf,zaj,decide_true,decide_false,zak,qaa,cond_true,cond_false,qaj,zab,zaa,qab,qam,Tm.k_mk,Tm.n_mk,Tm.ks_mk]
   ·simp only[zaS] at q
    by_cases qz:z=n<;>simp -implicitDefEqProofs only[pvc,qjK,i0,l0,r3,c1,c3,q,qz,qb3,bdZ,z5c,z5o,z5l,qa4,qaA,zaT,zay,if_true,if_false,zai,qah,qbc,qb1,qbj,qav,qad,qaf,zaj,decide_true,decide_false,zal,qaa,cond_true,cond_false,qaj,zab,zaa,qab,qam,Tm.k_mk,Tm.n_mk,Tm.ks_mk]
  ·simp -implicitDefEqProofs only[pvc,r2,r3,bdZ,z5c,z5o,z5l,qaA,if_false,qah,qaU,qbc,qbj,qad,qaf,zaj,decide_true,decide_false,qaa,cond_true,cond_false,qaj,zab,zaa,Tm.k_mk,Tm.ks_mk]
theorem qur {x:Sc}{c b:Tm}(r:Int):PC CP 121 [pv x,u8 r,(Tm.whl c b).v] (qc8 (qwX r (.whl c b))):=by
 have e:qe0 (.whl c b)=if qaI c&&decide (c.n=0) then some (.num 0 1) else none:=rfl
 refine qme (((qbZ c).and (qle 0 1)).mono fun N ⟨c1,c2⟩ E s=>⟨qiL _,?_,qcn _⟩)
 obtain⟨i0,l0⟩:=qb8 (n:=N) (E:=E) (l:=[c,b]) (u:=c) rfl
 have f0:=fun s=>(kf (n:=N) (E:=E) (l:=[c,b]) (j:=0) (u:=c) rfl s).2.1
 unfold s121 s121_13 s121_12 s121_11 s121_10 s121_9 s121_8 s121_7 s121_6 s121_5 s121_4 s121_3 s121_2 s121_1 s121_0 qwX
 rw[e]
 by_cases r13:r=13
 ·by_cases q:qaI c=true
  ·by_cases q0:c.n=0<;>simp -implicitDefEqProofs only[pvc,i0,l0,f0,r13,c1,c2,q,q0,qb3,bdZ,z5c,z5o,z5l,qa4,qaA,zat,zaT,if_true,if_false,zai,qah,qbc,qbj,qav,qad,qaf,zaj,decide_true,decide_false,qaa,cond_true,cond_false,qaj,zab,zaa,qab,Tm.k_mk,Tm.ks_mk]
  ·simp only[zaS] at q
   simp -implicitDefEqProofs only[pvc,i0,l0,f0,r13,c1,q,bdZ,z5c,z5o,z5l,qaA,zav,if_true,if_false,zai,qah,qaU,qbc,qbj,qad,qaf,zaj,decide_true,decide_false,qaa,cond_true,cond_false,qaj,zab,zaa,qab,Tm.k_mk,Tm.ks_mk]
 ·simp -implicitDefEqProofs only[pvc,r13,bdZ,z5c,z5o,z5l,qaA,if_false,qah,qaU,qbc,qb1,qbj,qad,qaf,zaj,decide_true,decide_false,qaa,cond_true,cond_false,qaj,zab,zaa,Tm.k_mk,Tm.n_mk,Tm.ks_mk]
theorem qus {x:Sc}{u w:Tm}(h:Rd x (.lbl u w))(r:Int):PC CP 121 [pv x,u8 r,(Tm.lbl u w).v] (qc8 (qwY r (.lbl u w))):=by
 have hku:=h.kid (j:=0) (u:=u) rfl
 have hle:=hku.len
 have e1:qe1 (.lbl u w)=if !u.any qcB 0 then some (u.chg qcM 0) else none:=rfl
 have e2:qh6 (.lbl u w)=if decide (u.k=12)&&decide (u.n=0) then some w else none:=rfl
 refine qme (((qqE u.size u _ 0 (zan _) hku.nd (by omega) (by omega)).and (qqH u.size u 0 (zan _) hku.nd.ok (by omega) (by omega))).mono fun N ⟨c1,c2⟩ E s=>⟨qiL _,?_,qcn _⟩)
 obtain⟨i0,l0⟩:=qb8 (n:=N) (E:=E) (l:=[u,w]) (u:=u) rfl
 obtain⟨i1,l1⟩:=qdz (n:=N) (E:=E) (l:=[u,w]) (u:=w) rfl
 have f0:=fun s=>(kf (n:=N) (E:=E) (l:=[u,w]) (j:=0) (u:=u) rfl s).1
 have f1:=fun s=>(kf (n:=N) (E:=E) (l:=[u,w]) (j:=0) (u:=u) rfl s).2.1
 unfold s121 s121_13 s121_12 s121_11 s121_10 s121_9 s121_8 s121_7 s121_6 s121_5 s121_4 s121_3 s121_2 s121_1 s121_0 qwY
 rw[e1,e2]
 by_cases r18:r=18
 ·by_cases q:u.any qcB 0=true
  ·simp -implicitDefEqProofs only[pvc,i0,l0,r18,c1,q,bdZ,z5c,z5o,z5l,qaA,if_true,if_false,zai,qah,qaU,qbc,qbj,qad,qaf,zaj,decide_true,decide_false,zak,qaa,cond_true,cond_false,qaj,zab,zaa,qab,qam,Tm.k_mk,Tm.ks_mk]
  ·simp only[zaS] at q
   simp -implicitDefEqProofs only[pvc,i0,l0,r18,c1,c2,q,qb3,qa4,if_true,qah,qbc,qbj,qav,qad,qaf,zaj,decide_true,decide_false,zal,qaa,cond_true,cond_false,qaj,zab,zaa,qab,qam,Tm.k_mk,Tm.ks_mk]
 ·by_cases r19:r=19
  ·by_cases k12:u.k=12
   ·by_cases q0:u.n=0<;>simp -implicitDefEqProofs only[pvc,i0,i1,l1,f0,f1,r19,k12,q0,qb3,bdZ,z5c,z5o,z5l,qa4,qaA,zat,zaT,if_true,if_false,zai,qah,qbc,qbj,qav,qad,qaf,zaj,decide_true,decide_false,qaa,cond_true,cond_false,qaj,zab,zaa,qab,Tm.k_mk,Tm.ks_mk]
   ·simp -implicitDefEqProofs only[pvc,i0,i1,l1,f0,f1,r19,k12,bdZ,z5c,z5o,z5l,qaA,zav,if_true,if_false,zai,qah,qaU,qbc,qbj,qav,qad,qaf,zaj,decide_true,decide_false,qaa,cond_true,cond_false,qaj,zab,zaa,qab,Tm.k_mk,Tm.ks_mk]
  ·simp -implicitDefEqProofs only[pvc,r18,r19,bdZ,z5c,z5o,z5l,qaA,if_false,qah,qaU,qbc,qb1,qbj,qad,qaf,zaj,decide_true,decide_false,qaa,cond_true,cond_false,qaj,zab,zaa,Tm.k_mk,Tm.n_mk,Tm.ks_mk]
theorem qut {x:Sc}{n i:Int}{u:Tm}(h:Rd x (.ntc n i u))(r:Int):PC CP 121 [pv x,u8 r,(Tm.ntc n i u).v] (qc8 (qwZ r x (.ntc n i u))):=by
 have hku:=h.kid (j:=0) (u:=u) rfl
 have hle:=hku.len
 have e:qdJ x (.ntc n i u)=if !u.any (qd8 x.top) 0 then some u else none:=rfl
 refine qme ((qqF x.top u.size u 0 (zan _) (by omega)).mono fun N c1 E s=>⟨qiL _,?_,qcn _⟩)
 obtain⟨i0,l0⟩:=qb8 (n:=N) (E:=E) (l:=[u]) (u:=u) rfl
 unfold s121 s121_13 s121_12 s121_11 s121_10 s121_9 s121_8 s121_7 s121_6 s121_5 s121_4 s121_3 s121_2 s121_1 s121_0 qwZ
 rw[e]
 by_cases r20:r=20
 ·by_cases q:u.any (qd8 x.top) 0=true
  ·simp -implicitDefEqProofs only[pvc,bs1,i0,l0,r20,c1,q,bdZ,z5c,z5o,z5l,qaA,if_true,if_false,zai,qah,qaU,qbc,qbj,qav,qad,qaf,zaj,decide_true,decide_false,zak,qaa,cond_true,cond_false,qaj,zab,zaa,qab,Tm.k_mk,Tm.ks_mk]
  ·simp only[zaS] at q
   simp -implicitDefEqProofs only[pvc,bs1,i0,l0,r20,c1,q,qb3,qa4,if_true,qah,qbc,qbj,qav,qad,qaf,zaj,decide_true,decide_false,zal,qaa,cond_true,cond_false,qaj,zab,zaa,qab,Tm.k_mk,Tm.ks_mk]
 ·simp -implicitDefEqProofs only[pvc,r20,bdZ,z5c,z5o,z5l,qaA,if_false,qah,qaU,qbc,qb1,qbj,qad,qaf,zaj,decide_true,decide_false,qaa,cond_true,cond_false,qaj,zab,zaa,Tm.k_mk,Tm.n_mk,Tm.ks_mk]
theorem quu {x:Sc}{a b:Tm}(h:Rd x (.cho a b))(r:Int):PC CP 121 [pv x,u8 r,(Tm.cho a b).v] (qc8 (qw0 r (.cho a b))):=by
 have e1:qdI (.cho a b)=if decide (a=b) then some a else none:=rfl
 have e2:qez (.cho a b)=if a.k=14 then some b else if b.k=14 then some a else none:=rfl
 refine qme ((qmZ a b (h.nd.ok.kids a (by simp[Tm.ks]))).mono fun N c1 E s=>⟨qiL _,?_,qcn _⟩)
 obtain⟨i0,l0⟩:=qb8 (n:=N) (E:=E) (l:=[a,b]) (u:=a) rfl
 obtain⟨i1,l1⟩:=qdz (n:=N) (E:=E) (l:=[a,b]) (u:=b) rfl
 have f0:=fun s=>(kf (n:=N) (E:=E) (l:=[a,b]) (j:=0) (u:=a) rfl s).1
 have f1:=fun s=>(kf (n:=N) (E:=E) (l:=[a,b]) (j:=1) (u:=b) rfl s).1
 unfold s121 s121_13 s121_12 s121_11 s121_10 s121_9 s121_8 s121_7 s121_6 s121_5 s121_4 s121_3 s121_2 s121_1 s121_0 qw0
 rw[e1,e2]
 by_cases r21:r=21
 ·by_cases q:a=b
  ·rw[decide_eq_true q] at c1⊢
   simp -implicitDefEqProofs only[pvc,i0,l0,i1,l1,f0,f1,r21,c1,qb3,qa4,if_true,qah,qbc,qbj,qav,qad,qaf,zaj,decide_true,decide_false,qaa,cond_true,cond_false,qaj,zab,zaa,qab,Tm.k_mk,Tm.ks_mk]
  ·rw[decide_eq_false q] at c1⊢
   simp -implicitDefEqProofs only[pvc,i0,l0,i1,l1,f0,f1,r21,c1,bdZ,z5c,z5o,z5l,qaA,if_true,if_false,zai,qah,qaU,qbc,qbj,qav,qad,qaf,zaj,decide_true,decide_false,qaa,cond_true,cond_false,qaj,zab,zaa,qab,Tm.k_mk,Tm.ks_mk]
 ·by_cases r22:r=22
  ·by_cases qa:a.k=14
   ·simp -implicitDefEqProofs only[pvc,i0,l0,i1,l1,f0,f1,r22,qa,qb3,qa4,if_true,if_false,qah,qbc,qbj,qav,qad,qaf,zaj,decide_true,decide_false,qaa,cond_true,cond_false,qaj,zab,zaa,qab,Tm.k_mk,Tm.ks_mk]
   ·by_cases qb:b.k=14<;>simp -implicitDefEqProofs only[pvc,i0,l0,i1,l1,f0,f1,r22,qa,qb,qb3,bdZ,z5c,z5o,z5l,qa4,qaA,if_true,if_false,qah,qbc,qbj,qav,qad,qaf,zaj,decide_true,decide_false,qaa,cond_true,cond_false,qaj,zab,zaa,qab,Tm.k_mk,Tm.ks_mk]
  ·simp -implicitDefEqProofs only[pvc,i0,i1,f0,f1,r21,r22,bdZ,z5c,z5o,z5l,qaA,if_false,qah,qaU,qbc,qb1,qbj,qad,qaf,zaj,decide_true,decide_false,qaa,cond_true,cond_false,qaj,zab,zaa,qab,Tm.k_mk,Tm.n_mk,Tm.ks_mk]
theorem qwp {x:Sc}{t:Tm}(h:Rd x t)(i:Nat)(hi:i<22):PC CP 121 [pv x,u8 (.ofNat (i+1)),t.v] (qc8 (qbn i x t)):=by
 rw[qwo x t i hi]
 generalize Int.ofNat (i+1)=r
 cases h.nd.sh with
 |op n m a b=>exact qgJ (fun _=>qwm h.nd r) (fun q=>by simp[Tm.k] at q) (fun q=>by simp[Tm.k] at q) (fun q=>by simp[Tm.k] at q) (by simp[Tm.k])
 |ite c a b=>exact qgJ (fun q=>by simp[Tm.k] at q) (fun _=>qwn h r) (fun q=>by simp[Tm.k] at q) (fun q=>by simp[Tm.k] at q) (by simp[Tm.k])
 |seq a b=>exact qgJ (fun q=>by simp[Tm.k] at q) (fun q=>by simp[Tm.k] at q) (fun _=>qum h r) (fun q=>by simp[Tm.k] at q) (by simp[Tm.k])
 |new n m u=>exact qgJ (fun q=>by simp[Tm.k] at q) (fun q=>by simp[Tm.k] at q) (fun q=>by simp[Tm.k] at q) (fun _=>qun h r) (by simp[Tm.k])
 |az n u=>exact quq h r
 |whl c b=>exact qur r
 |lbl u w=>exact qus h r
 |ntc n i u=>exact qut h r
 |cho a b=>exact quu h r
 |_=>exact qup (by simp[Tm.k])
end Go.AI.Tryz
namespace Go.AI.Tryz
def LG (s:ASt)(tok:Nat)(y:List Rw):Prop:=y≠[]->tok<s.ntok/\qas s.toks tok=some (y.length,2)
structure Vs (s0:ASt)(k0:Nat)(y0:List Rw)(s:ASt)(k:Nat)(y:List Rw):Prop where
 nt:s0.ntok<=s.ntok
 ag:∀t,t<s0.ntok->(y0≠[]->t≠k0)->qas s.toks t=qas s0.toks t
 tk:y≠[]->(y0≠[]/\k=k0)\/s0.ntok<=k
 lg:LG s k y
theorem Vs.refl {s:ASt}{k:Nat}{y:List Rw}(h:LG s k y):Vs s k y s k y:=⟨zan _,fun _ _ _=>rfl,fun h=> .inl ⟨h,rfl⟩,h⟩
theorem Vs.trans {s0 s1 s2:ASt}{k0 k1 k2:Nat}{y0 y1 y2:List Rw}(h:Vs s0 k0 y0 s1 k1 y1)(g:Vs s1 k1 y1 s2 k2 y2):Vs s0 k0 y0 s2 k2 y2:=by
 have h1:=h.nt
 have h2:=g.nt
 refine⟨by omega,fun t ht hn=>?_,fun hy=>?_,g.lg⟩
 ·rw[g.ag t (by omega) fun q=>?_,h.ag t ht hn]
  rcases h.tk q with⟨q1,q2⟩|q1
  ·rw[q2];exact hn q1
  ·omega
 ·rcases g.tk hy with⟨q1,q2⟩|q1
  ·rcases h.tk q1 with⟨q3,q4⟩|q3
   ·exact .inl ⟨q3,by rw[q2,q4]⟩
   ·exact .inr (by omega)
  ·exact .inr (by omega)
theorem Vs.heap {s0 s:ASt}{k0 k:Nat}{y0 y:List Rw}(h:Vs s0 k0 y0 s k y)(H:qaR):Vs s0 k0 y0 {s with heap:=H} k y:=⟨h.nt,h.ag,h.tk,h.lg⟩
theorem qny (e:Env){y:List Rw}{tok:Nat}{s:ASt}(h:LG s tok y)(p:Rw)(hb:y.length<=100000000):
  ∃tok' s',ap e 2 16 (qbT tok y) (.sl 1 (rwC p) .full) s=some (qbT tok' (y++[p]),s')/\s'.heap=s.heap/\s'.next=s.next/\Vs s tok y s' tok' (y++[p]):=by
 cases y with
 |nil=>
  refine⟨s.ntok,_,qfU e (sz:=2) (b:=16) (new:=rwC p) s rfl rfl (by omega),rfl,rfl,Nat.le_succ _,fun t ht _=>?_,fun _=> .inr (zan _),fun _=>⟨zbe _,?_⟩⟩
  ·show qas ((s.ntok,1,2)::s.toks) t=_
   rw[qap,if_neg (by omega)]
  ·show qas ((s.ntok,1,2)::s.toks) s.ntok=_
   rw[qap,if_pos rfl]
   rfl
 |cons a r=>
  obtain⟨hlt,ht⟩:=h (by simp)
  obtain⟨ts,e1,e2⟩:=qm7 e (sz:=2) (b:=16) (n:=r.length+1) (t:=tok) (cs:=qaQ rwC (a::r)) (new:=rwC p) (y:=.sl 1 (rwC p) .full) ht rfl rfl (by simp only[zar] at hb;omega)
  refine⟨tok,{s with toks:=ts},?_,rfl,rfl,zan _,fun t _ hn=>?_,fun _=> .inl ⟨by simp,rfl⟩,fun _=>⟨hlt,?_⟩⟩
  ·have hl:qbT tok (a::r++[p])=.sl (r.length+1+1) (qaQ rwC (a::r)++rwC p) (.own tok):=by
    show zA.sl ((r++[p]).length+1) (qaQ rwC (a::(r++[p]))) (.own tok)=_
    have:=qfB rwC (a::r) p
    rw[zaF] at this
    rw[this,zaw]
    rfl
   rw[hl]
   exact e1
  ·show qas ts t=_
   rw[e2,if_neg (hn (by simp))]
  ·show qas ts tok=_
   rw[e2,if_pos rfl]
   simp only[zaw,zar,zaB]
abbrev VC (c:Nat)(w:Rw)(dn:Bool)(tok:Nat)(y:List Rw):List zA:=[i64 (.ofNat c),u8 w.1,i64 w.2,bl dn,qbT tok y]
abbrev Zt:List zA:=[u8 0,i64 0,i64 0,i64 0,.sl 0 [] .full]
abbrev qeE (l:List Of):List Rw:=l.map fun o=>(o.1,o.2.1)
def qhH (x:Sc)(t:Tm)(c:Nat)(i:Nat):List Of:=(ruL.drop i).filterMap fun i=>(qbn i x t).map fun u=>(Int.ofNat (i+1),Int.ofNat c,u)
theorem qqJ (x:Sc)(t:Tm)(c:Nat):qdv qcx x t (.ofNat c)=qhH x t c 0:=by
 unfold qdv qhH qcx
 simp only[if_true,List.drop_zero]
theorem qlg (x:Sc)(t:Tm)(c:Nat){i:Nat}(hi:i<22):qhH x t c i=(match qbn i x t with|some u=>[(Int.ofNat (i+1),Int.ofNat c,u)]|none=>[])++qhH x t c (i+1):=by
 have h:=qf5 hi
 obtain⟨hl,he⟩:=zao.1 h
 unfold qhH
 rw[zaz hl,he]
 simp only[List.filterMap_cons]
 cases qbn i x t<;>rfl
theorem qjL (x:Sc)(t:Tm)(c:Nat):qhH x t c 22=[]:=rfl
theorem qnz (x:Sc)(t:Tm)(c i:Nat):(qhH x t c i).length<=22-i:=by
 unfold qhH
 refine zbf (List.length_filterMap_le _ _) ?_
 rw[List.length_drop]
 exact zan _
theorem vc0 (c:Nat)(w:Rw)(d:Bool)(k:Nat)(y:List Rw):ldL (VC c w d k y) 0 none=some (i64 (.ofNat c)):=rfl
theorem vc1 (c:Nat)(w:Rw)(d:Bool)(k:Nat)(y:List Rw):ldL (VC c w d k y) 1 (some 2)=some (rv w):=rfl
theorem vc3 (c:Nat)(w:Rw)(d:Bool)(k:Nat)(y:List Rw):ldL (VC c w d k y) 3 none=some (bl d):=rfl
theorem vc4 (c:Nat)(w:Rw)(d:Bool)(k:Nat)(y:List Rw):ldL (VC c w d k y) 4 none=some (qbT k y):=rfl
theorem qwq (w p:Rw):eqs [1,1] false (rv w) (rv p)=some (bl (decide (w=p))):=by
 rw[qsN]
 congr 1
 obtain⟨a,b⟩:=w
 obtain⟨c,d⟩:=p
 simp only[cond_false,zaq]
 by_cases h1:a=c<;>by_cases h2:b=d<;>simp[h1,h2]
theorem cnb (b:Bool):zA.cells none (bl b)=some [bl b]:=rfl
section
variable {N:Nat} {E:qaR} {x:Sc} {t:Tm} {c l:Nat} {w:Rw} {dn:Bool} {H:qaR} (hN:23<=N) (hM:∀i,i<22->∀s,cl (qag CP N E) 121 [pv x,u8 (.ofNat (i+1)),t.v] s=some (qc8 (qbn i x t),s))
include hN hM
theorem qon (s:ASt)(tok:Nat)(y:List Rw)(hs:s.heap=(l,.cells (VC (c+1) w dn tok y))::H)(hlg:LG s tok y)(hy:y.length+22<=100000000):
  ((∀o∈qhH x t c 0,(o.1,o.2.1)≠w)→∃c22 s' tok',s70_5 (qag CP N E) N (.ptr l 0) (i64 (.ofNat c)) (u8 1) 0 t.c [sw x.sn,i64 x.top] Zt [] [] [] s=s70_4 (qag CP N E) N (.ptr l 0) (i64 0) 0 t.c [sw x.sn,i64 x.top] Zt c22 (oc t (.sl 0 [] .full)) [] s'∧
   s'.heap=(l,.cells (VC (c+1) w dn tok' (y++qeE (qhH x t c 0))))::H/\s'.next=s.next/\Vs s tok y s' tok' (y++qeE (qhH x t c 0)))/\
  (∀o∈qhH x t c 0,(o.1,o.2.1)=w→∃s' tok' y',s70_5 (qag CP N E) N (.ptr l 0) (i64 (.ofNat c)) (u8 1) 0 t.c [sw x.sn,i64 x.top] Zt [] [] [] s=some (o.2.2.v,s')∧
   s'.heap=(l,.cells (VC (c+1) w true tok' y'))::H/\s'.next=s.next/\Vs s tok y s' tok' y'/\y'.length<=y.length+22):=by
 unfold s70_5
 generalize hF:(fun(h26:zA->Nat->List zA->List zA->List zA->List zA->List zA->List zA->ASt->Res) (x17:zA) (g18:Nat) (c19 c20 c21 c22 c23 c24:List zA) (s25:ASt)=>_)=F
 have step:∀(i:Nat) (L:zA->Nat->List zA->List zA->List zA->List zA->List zA->List zA->ASt->Res) (g:Nat) (c22:List zA) (s:ASt) (tok:Nat) (y:List Rw),i<22->s.heap=(l,.cells (VC (c+1) w dn tok y))::H->LG s tok y->y.length<100000000->
   (qbn i x t=none->∃c22',F L (u8 (.ofNat (i+1))) g t.c [sw x.sn,i64 x.top] Zt c22 [] [] s=L (u8 (.ofNat (i+2))) (g+1) t.c [sw x.sn,i64 x.top] Zt c22' [] [] s)/\
   (∀u,qbn i x t=some u→∃s' tok',s'.next=s.next∧Vs s tok y s' tok' (y++[(Int.ofNat (i+1),Int.ofNat c)])∧
    (w≠(Int.ofNat (i+1),Int.ofNat c)->s'.heap=(l,.cells (VC (c+1) w dn tok' (y++[(Int.ofNat (i+1),Int.ofNat c)])))::H/\F L (u8 (.ofNat (i+1))) g t.c [sw x.sn,i64 x.top] Zt c22 [] [] s=L (u8 (.ofNat (i+2))) (g+1) t.c [sw x.sn,i64 x.top] Zt u.c [] [] s')/\
    (w=(Int.ofNat (i+1),Int.ofNat c)->∃s'',s''.heap=(l,.cells (VC (c+1) w true tok' (y++[(Int.ofNat (i+1),Int.ofNat c)])))::H/\s''.next=s.next/\s''.ntok=s'.ntok/\s''.toks=s'.toks/\F L (u8 (.ofNat (i+1))) g t.c [sw x.sn,i64 x.top] Zt c22 [] [] s=some (u.v,s''))):=by
  intro i L g c22 s tok y hi hs hlg hy
  have hc:=hM i hi
  have hle:¬((22:Int)<Int.ofNat (i+1)):=by simp only[zaf];omega
  have hw:qbb .u8 (Int.ofNat (i+1)+1)=Int.ofNat (i+2):=by
   have:Int.ofNat (i+1)+1=Int.ofNat (i+2):=by simp only[zaf];omega
   rw[this]
   exact qp3 (by omega)
  refine⟨fun h=>?_,fun u h=>?_⟩
  ·rw[h] at hc
   refine⟨Tm.z.c,?_⟩
   subst hF
   unfold s70_0
   simp -implicitDefEqProofs only[hle,qjK,qb3,hc,hw,za8,qah,qav,qad,qbl,qaw,decide_false,zal,qaa,cond_true,qaj,zab,zaa,qab,qan,qax,qay,qam,cnd,qaC,zaR,zaG]
  ·rw[h] at hc
   have hcell:qar (qag CP N E).E s l=some (VC (c+1) w dn tok y):=qaS hs
   have hbd:bd [u8 0,i64 0] [(0,none,.c (u8 (.ofNat (i+1)))),(1,none,.c (i64 (.ofNat c)))]=some (rv (Int.ofNat (i+1),Int.ofNat c)):=rfl
   have hms:ms 1 [.int .u8 0,.int .i64 0] [(0,some 2,.c (rv (Int.ofNat (i+1),Int.ofNat c)))]=some (.sl 1 (rwC (Int.ofNat (i+1),Int.ofNat c)) .full):=rfl
   obtain⟨tok',s1,e1,e2,e3,e4⟩:=qny (qag CP N E) hlg (Int.ofNat (i+1),Int.ofNat c) (by omega)
   have hs1:s1.heap=(l,.cells (VC (c+1) w dn tok y))::H:=e2.trans hs
   have hst:=qqT (o:=4) (cs:=[qbT tok' (y++[(Int.ofNat (i+1),Int.ofNat c)])]) (new:=VC (c+1) w dn tok' (y++[(Int.ofNat (i+1),Int.ofNat c)])) hs1 (qjC _ _) rfl
   generalize hs2:({s1 with heap:=(l,zH.cells (VC (c+1) w dn tok' (y++[(Int.ofNat (i+1),Int.ofNat c)])))::H}:ASt)=s2 at hst
   have hs2h:s2.heap=(l,.cells (VC (c+1) w dn tok' (y++[(Int.ofNat (i+1),Int.ofNat c)])))::H:=by rw[<-hs2]
   have hcell2:qar (qag CP N E).E s2 l=some (VC (c+1) w dn tok' (y++[(Int.ofNat (i+1),Int.ofNat c)])):=qaS hs2h
   have hst3:=qqT (o:=3) (cs:=[bl true]) (new:=VC (c+1) w true tok' (y++[(Int.ofNat (i+1),Int.ofNat c)])) hs2h rfl rfl
   have hlc:=qhz tok' (y++[(Int.ofNat (i+1),Int.ofNat c)])
   refine⟨s2,tok',by rw[<-hs2];exact e3,by rw[<-hs2];exact e4.heap _,fun hne=>⟨hs2h,?_⟩,fun heq=>⟨{s2 with heap:=(l,.cells (VC (c+1) w true tok' (y++[(Int.ofNat (i+1),Int.ofNat c)])))::H},rfl,by rw[<-hs2];exact e3,rfl,rfl,?_⟩⟩
   ·have hd:decide (w=(Int.ofNat (i+1),Int.ofNat c))=false:=decide_eq_false hne
    subst hF
    unfold s70_0
    simp -implicitDefEqProofs only[hle,qjK,qb3,hc,hw,za8,qeb,zaK,ldP hcell,vc4,hbd,hms,e1,hlc,hst,ldP hcell2,vc1,qwq,hd,qah,qav,qad,qbl,qaw,decide_false,zak,zal,qaa,cond_true,cond_false,qaj,zab,zaa,qab,qan,qax,qay,qam,qbD,cnd,qaC,zaE,zbj]
   ·have hd:decide (w=(Int.ofNat (i+1),Int.ofNat c))=true:=decide_eq_true heq
    subst hF
    unfold s70_0
    simp -implicitDefEqProofs only[hle,qjK,qb3,hc,hw,za8,qeb,zaK,ldP hcell,vc4,hbd,hms,e1,hlc,hst,ldP hcell2,vc1,qwq,hd,cnb,hst3,qah,qav,qad,qbl,qaw,decide_false,zak,zal,qaa,cond_true,cond_false,qaj,zab,zaa,qab,qan,qax,qay,qam,qbD,cnd,qaC,zaE,zbj]
 have h0:u8 1=u8 (.ofNat (0+1)):=rfl
 have e0:qeE ([]:List Of)=[]:=rfl
 constructor
 ·intro hno
  have key:∀(m i k g:Nat) (c22:List zA) (s:ASt) (tok:Nat) (y:List Rw),i+m=22->m<k->(∀o∈qhH x t c i,(o.1,o.2.1)≠w)->s.heap=(l,.cells (VC (c+1) w dn tok y))::H->LG s tok y->y.length+m<=100000000->
    ∃c22' s' tok',lp (fun _ _ _ _ _ _ _ _ _=>none) F k (u8 (.ofNat (i+1))) g t.c [sw x.sn,i64 x.top] Zt c22 [] [] s=s70_4 (qag CP N E) N (.ptr l 0) (i64 0) 0 t.c [sw x.sn,i64 x.top] Zt c22' (oc t (.sl 0 [] .full)) [] s'/\
     s'.heap=(l,.cells (VC (c+1) w dn tok' (y++qeE (qhH x t c i))))::H/\s'.next=s.next/\Vs s tok y s' tok' (y++qeE (qhH x t c i)):=by
   intro m
   induction m with
   |zero=>
    intro i k g c22 s tok y hi hk _ hs hlg _
    obtain⟨k,rfl⟩:∃m,k=m+1:=⟨k-1,by omega⟩
    have hi:i=22:=by omega
    subst hi
    refine⟨c22,s,tok,?_,by rw[qjL,e0,zbg];exact hs,rfl,by rw[qjL,e0,zbg];exact Vs.refl hlg⟩
    rw[qa6]
    generalize lp _ F k=L
    subst hF
    have hle:(22:Int)<Int.ofNat (22+1):=by simp only[zaf];omega
    generalize s70_4 (qag CP N E) N=G
    simp -implicitDefEqProofs only[hle,qb3,cn0,tc4,qah,qav,qad,qbl,decide_true,zak,qaa,cond_false,qaj,zab,zaa,cnd]
   |succ m ih=>
    intro i k g c22 s tok y hi hk hno hs hlg hy
    obtain⟨k,rfl⟩:∃m,k=m+1:=⟨k-1,by omega⟩
    rw[qa6]
    have hst:=step i (lp (fun _ _ _ _ _ _ _ _ _=>none) F k) g c22 s tok y (by omega) hs hlg (by omega)
    rw[qlg x t c (show i<22 by omega)] at hno⊢
    cases hr:qbn i x t with
    |none=>
     rw[hr] at hno
     obtain⟨c22',e⟩:=hst.1 hr
     obtain⟨c3,s',tok',a1,a2⟩:=ih (i+1) k (g+1) c22' s tok y (by omega) (by omega) hno hs hlg (by omega)
     exact⟨c3,s',tok',e.trans a1,a2⟩
    |some u=>
     rw[hr] at hno
     obtain⟨s1,tok1,b1,b2,b3,_⟩:=hst.2 u hr
     have hne:w≠(Int.ofNat (i+1),Int.ofNat c):=fun h=>hno (Int.ofNat (i+1),Int.ofNat c,u) (by simp) h.symm
     obtain⟨b4,b5⟩:=b3 hne
     obtain⟨c3,s',tok',a1,a2,a3,a4⟩:=ih (i+1) k (g+1) u.c s1 tok1 _ (by omega) (by omega) (fun o ho=>hno o (by simp[ho])) b4 b2.lg (by simp only[zaw,zar,zaB];omega)
     have he:(y++[(Int.ofNat (i+1),Int.ofNat c)])++qeE (qhH x t c (i+1))=y++qeE ([(Int.ofNat (i+1),Int.ofNat c,u)]++qhH x t c (i+1)):=by simp[qeE]
     rw[he] at a2 a4
     exact⟨c3,s',tok',b5.trans a1,a2,a3.trans b1,b2.trans a4⟩
  exact key 22 0 N 0 [] s tok y rfl (by omega) hno hs hlg (by omega)
 ·intro o ho hw
  have key:∀(m i k g:Nat) (c22:List zA) (s:ASt) (tok:Nat) (y:List Rw),i+m=22->m<k->o∈qhH x t c i->s.heap=(l,.cells (VC (c+1) w dn tok y))::H->LG s tok y->y.length+m<=100000000->
    ∃s' tok' y',lp (fun _ _ _ _ _ _ _ _ _=>none) F k (u8 (.ofNat (i+1))) g t.c [sw x.sn,i64 x.top] Zt c22 [] [] s=some (o.2.2.v,s')/\s'.heap=(l,.cells (VC (c+1) w true tok' y'))::H/\s'.next=s.next/\Vs s tok y s' tok' y'/\y'.length<=y.length+m:=by
   intro m
   induction m with
   |zero=>
    intro i k g c22 s tok y hi hk ho
    have hi:i=22:=by omega
    subst hi
    rw[qjL] at ho
    cases ho
   |succ m ih=>
    intro i k g c22 s tok y hi hk ho hs hlg hy
    obtain⟨k,rfl⟩:∃m,k=m+1:=⟨k-1,by omega⟩
    rw[qa6]
    have hst:=step i (lp (fun _ _ _ _ _ _ _ _ _=>none) F k) g c22 s tok y (by omega) hs hlg (by omega)
    rw[qlg x t c (show i<22 by omega)] at ho
    cases hr:qbn i x t with
    |none=>
     rw[hr] at ho
     obtain⟨c22',e⟩:=hst.1 hr
     obtain⟨s',tok',y',a1,a2,a3,a4,a5⟩:=ih (i+1) k (g+1) c22' s tok y (by omega) (by omega) ho hs hlg (by omega)
     exact⟨s',tok',y',e.trans a1,a2,a3,a4,by omega⟩
    |some u=>
     rw[hr] at ho
     obtain⟨s1,tok1,b1,b2,b3,b6⟩:=hst.2 u hr
     by_cases hq:w=(Int.ofNat (i+1),Int.ofNat c)
     ·obtain⟨s2,d1,d2,d3,d4,d5⟩:=b6 hq
      have hou:o.2.2=u:=by
       simp only[zaF,zaJ,zaA] at ho
       rcases ho with rfl|ho
       ·rfl
       ·exfalso
        unfold qhH at ho
        rw[List.mem_filterMap] at ho
        obtain⟨i2,h1,h2⟩:=ho
        rw[zad] at h2
        obtain⟨v,h3,rfl⟩:=h2
        have h4:i+1<=i2:=by
         obtain⟨q,hq1,hq2⟩:=List.getElem_of_mem h1
         rw[List.getElem_drop] at hq2
         have hq3:i+1+q<22:=by rw[List.length_drop] at hq1;have:ruL.length=22:=rfl;omega
         have:=qf5 hq3
         obtain⟨_,hq4⟩:=zao.1 this
         rw[hq4] at hq2
         omega
        rw[hq,zaq] at hw
        have:=hw.1
        simp only[zaf] at this
        omega
      refine⟨s2,tok1,_,by rw[hou];exact d5,d1,d2,⟨by rw[d3];exact b2.nt,by rw[d4];exact b2.ag,b2.tk,fun h=>?_⟩,by simp only[zaw,zar,zaB];omega⟩
      rw[d3,d4]
      exact b2.lg h
     ·obtain⟨b4,b5⟩:=b3 hq
      have ho':o∈qhH x t c (i+1):=by
       simp only[zaF,zaJ,zaA] at ho
       rcases ho with rfl|ho
       ·exact absurd hw.symm hq
       ·exact ho
      obtain⟨s',tok',y',a1,a2,a3,a4,a5⟩:=ih (i+1) k (g+1) u.c s1 tok1 _ (by omega) (by omega) ho' b4 b2.lg (by simp only[zaw,zar,zaB];omega)
      simp only[zaw,zar,zaB] at a5
      exact⟨s',tok',y',b5.trans a1,a2,a3.trans b1,b2.trans a4,by omega⟩
  exact key 22 0 N 0 [] s tok y rfl (by omega) ho hs hlg (by omega)
end
end Go.AI.Tryz
namespace Go.AI.Tryz
def KI (n0:Nat)(s:ASt)(j tk tok:Nat)(y:List Rw):Prop:=0<j->n0<=tk/\tk<s.ntok/\qas s.toks tk=some (j,5)/\(y≠[]->tk≠tok)
theorem KI.visit {n0:Nat}{s s1:ASt}{j tk tok tok1:Nat}{y y1:List Rw}(h:KI n0 s j tk tok y)(v:Vs s tok y s1 tok1 y1):KI n0 s1 j tk tok1 y1:=fun hj=>by
 obtain⟨h1,h2,h3,h4⟩:=h hj
 have:=v.nt
 refine⟨h1,by omega,by rw[v.ag tk h2 h4,h3],fun hy=>?_⟩
 rcases v.tk hy with⟨q1,q2⟩|q
 ·rw[q2];exact h4 q1
 ·omega
theorem qmf (e:Env){f:Nat->List zP}{s s0:ASt}{k0 j tk tok:Nat}{y0 y:List Rw}{u:Tm}(hk:KI s0.ntok s j tk tok y)(v:Vs s0 k0 y0 s tok y)(hj:j<=1000000)(hf:f (j+1)=(if j=0 then[] else f j)++u.cells):
  ∃tk' s',ap e 5 56 (qb0 f tk j) (.sl 1 u.cells .full) s=some (qb0 f tk' (j+1),s')/\s'.heap=s.heap/\s'.next=s.next/\KI s0.ntok s' (j+1) tk' tok y/\Vs s0 k0 y0 s' tok y:=by
 have vn:=v.nt
 cases j with
 |zero=>
  refine⟨s.ntok,{s with ntok:=s.ntok+1,toks:=(s.ntok,1,5)::s.toks},?_,rfl,rfl,fun _=>⟨vn,zbe _,?_,fun hy=>?_⟩,⟨by show _<=s.ntok+1;omega,fun t ht hn=>?_,v.tk,fun hy=>?_⟩⟩
  ·show ap e 5 56 (.sl 0 [] .full) _ s=_
   rw[qfU e s rfl (Tm.len_cells u) (by omega)]
   simp only[qb0,hf,if_true,zaJ]
  ·show qas ((s.ntok,1,5)::s.toks) s.ntok=_
   rw[qap,if_pos rfl]
  ·have:=(v.lg hy).1
   omega
  ·show qas ((s.ntok,1,5)::s.toks) t=_
   rw[qap,if_neg (by omega)]
   exact v.ag t ht hn
  ·obtain⟨h1,h2⟩:=v.lg hy
   refine⟨Nat.lt_succ_of_lt h1,?_⟩
   show qas ((s.ntok,1,5)::s.toks) tok=_
   rw[qap,if_neg (by omega)]
   exact h2
 |succ j=>
  obtain⟨h1,h2,h3,h4⟩:=hk (Nat.succ_pos _)
  obtain⟨ts,e1,e2⟩:=qm7 e (sz:=5) (b:=56) (n:=j+1) (t:=tk) (cs:=f (j+1)) (new:=u.cells) (y:=.sl 1 u.cells .full) h3 rfl (Tm.len_cells u) (by omega)
  refine⟨tk,{s with toks:=ts},?_,rfl,rfl,fun _=>⟨h1,h2,?_,h4⟩,⟨vn,fun t ht hn=>?_,v.tk,fun hy=>?_⟩⟩
  ·simp only[qb0]
   rw[hf,if_neg (by omega)]
   exact e1
  ·show qas ts tk=_
   rw[e2,if_pos rfl]
  ·show qas ts t=_
   rw[e2,if_neg (by omega)]
   exact v.ag t ht hn
  ·obtain⟨g1,g2⟩:=v.lg hy
   refine⟨g1,?_⟩
   show qas ts tok=_
   rw[e2,if_neg (fun q=>h4 hy q.symm)]
   exact g2
structure KidP (N:Nat)(x:Sc)(t:Tm):Prop where
 cell:∀E s,cl (qag CP N E) 122 [i64 t.n] s=some ((Sn.cell t.n).v,s)
 wcell:∀E s,cl (qag CP N E) 119 [sw x.sn,(Sn.cell t.n).v] s=some (sw (x.sn++[Sn.cell t.n]),s)
 size:t.k=17->∀u,t.ks[0]? =some u->∀E s,cl (qag CP N E) 123 [pv x,u.v] s=some (i64 (szF x u).1,s)
 val:∀E s,cl (qag CP N E) 120 [i64 (szF x (t.ks.headD .z)).1] s=some ((Sn.val (szF x (t.ks.headD .z)).1).v,s)
 wval:∀E s,cl (qag CP N E) 119 [sw x.sn,(Sn.val (szF x (t.ks.headD .z)).1).v] s=some (sw (x.sn++[Sn.val (szF x (t.ks.headD .z)).1]),s)
theorem quv {x:Sc}{t:Tm}(h:Rd x t):Ev fun N=>KidP N x t:=by
 have hl:=h.len
 have hsn:x.sn.length<=1000000:=by rw[qqx];omega
 have hs:Ev fun N=>t.k=17->∀u,t.ks[0]? =some u->∀E s,cl (qag CP N E) 123 [pv x,u.v] s=some (i64 (szF x u).1,s):=Ev.imp fun h17=>by
  cases h.nd.sh with
  |obj u w=>
   have hk:=h.kid (j:=0) (u:=u) rfl
   rw[qfi h17] at hk
   have hsz:u.k≠16/\u.k≠17:=by
    rcases h.nd.w with g|⟨b,g⟩
    ·rw[qdQ] at g;cases g
    ·rw[ql5] at g
     simp only[zag] at g
     exact quO g.2.1.1
   exact(hk.psize hsz).mono fun N hN v hv E s=>by
    simp only[Tm.ks,zas,zac] at hv
    subst hv
    exact hN E s
  |_=>simp[Tm.k] at h17
 exact(((qqu t.n).and (qjH x.sn hsn (Sn.cell t.n))).and (hs.and ((qsQ (szF x (t.ks.headD .z)).1).and (qjH x.sn hsn (Sn.val (szF x (t.ks.headD .z)).1))))).mono fun N ⟨⟨a,b⟩,c,d,e⟩=>⟨a,b,c,d,e⟩
theorem qqK (x:Sc)(t:Tm)(j:Nat):(x.kid t j).top=x.top:=by
 unfold Sc.kid
 split
 ·rfl
 ·split
  ·rfl
  ·split<;>rfl
theorem qqL {N:Nat}{E:qaR}{x:Sc}{t:Tm}(ht:x.top<=Int.ofNat x.ids.length)(hp:KidP N x t){j:Nat}(hj:j<t.ks.length)(g:Nat)(c80 c81 c82:List zA)(s:ASt)(J:List zA->List zA->List zA->List zA->List zA->List zA->ASt->Res):
  ((ldL [sw x.sn,i64 x.top] 0 (some 2)).bind fun x89=>(zA.cells (some 2) x89).bind fun c90=>cnd (Nat.beq (g+1) (g+1)) ((over [.sl 0 [] .full,i64 0] 0 c90).bind fun c91=>(ldL t.c 0 none).bind fun x92=>(bn .eql x92 (u8 10)).bind fun x93=>
   jn J fun j115=>qae x93 ((ldL [sw x.sn,i64 x.top] 0 none).bind fun x116=>(ldL t.c 1 none).bind fun x117=>qac (cl (qag CP N E) 122 [x117] s) fun x118 s119=>qac (cl (qag CP N E) 119 [x116,x118] s119) fun x120 s121=>
    (zA.cells none x120).bind fun c122=>cnd (Nat.beq (g+1) (g+1)) ((over c91 0 c122).bind fun c123=>j115 t.c [sw x.sn,i64 x.top] c80 c81 c82 c123 s121) none)
    (jn (s70_3 (qag CP N E) N j115 [sw x.sn,i64 x.top] t.c s g c91 c80 c81 c82) fun j147=>(ldL t.c 0 none).bind fun x148=>(bn .eql x148 (u8 17)).bind fun x149=>qae x149 ((bn .eql (i64 (.ofNat j)) (i64 1)).bind fun x150=>j147 x150) (j147 (bl false)))) none)=
  J t.c [sw x.sn,i64 x.top] c80 c81 c82 [sw (x.kid t j).sn,i64 x.top] s:=by
 have o1:over [.sl 0 [] .full,i64 0] 0 [sw x.sn,i64 x.top]=some [sw x.sn,i64 x.top]:=rfl
 have o2:∀a:zA,over [sw x.sn,i64 x.top] 0 [a]=some [a,i64 x.top]:=fun _=>rfl
 have cw:∀l:List Sn,zA.cells none (sw l)=some [sw l]:=fun _=>rfl
 have e1:(Int.ofNat j=1)=(j=1):=by simp only[zaf,eq_iff_iff];omega
 unfold s70_3 s70_2
 by_cases k10:t.k=10
 ·have hk:(x.kid t j).sn=x.sn++[Sn.cell t.n]:=by unfold Sc.kid;rw[if_pos k10,qjI x _ ht];rfl
  rw[hk]
  simp -implicitDefEqProofs only[qjK,bs0,pvc,o1,o2,cw,k10,hp.cell,hp.wcell,za8,qbc,qb1,qbj,qad,qaf,zaj,decide_true,decide_false,qaa,cond_true,cond_false,qaj,zab,zaa,qab,cnd]
 ·by_cases k17:t.k=17
  ·by_cases j1:j=1
   ·obtain⟨u,hu⟩:∃u,t.ks[0]? =some u:=⟨_,zah (show 0<t.ks.length by omega)⟩
    have hd:t.ks.headD .z=u:=by
     cases hks:t.ks with
     |nil=>rw[hks] at hu;cases hu
     |cons a r=>rw[hks] at hu;simpa using hu
    have hk:(x.kid t j).sn=x.sn++[Sn.val (szF x u).1]:=by unfold Sc.kid;rw[if_neg k10,if_pos ⟨k17,j1⟩,qjI x _ ht,hd];rfl
    rw[hk]
    obtain⟨i0,l0⟩:=qb8 (n:=N) (E:=E) (l:=t.ks) (u:=u) hu
    have c1:=hp.size k17 u hu E
    have c2:=hp.val E
    have c3:=hp.wval E
    rw[hd] at c2 c3
    have e2:decide (Int.ofNat j=1)=true:=decide_eq_true (by rw[j1];rfl)
    simp -implicitDefEqProofs only[qjK,bs0,pvc,o1,o2,cw,k17,e2,i0,l0,c1,c2,c3,za8,qbc,qb1,qbj,qad,qaf,zaj,decide_true,decide_false,qaa,cond_true,cond_false,qaj,zab,zaa,qab,cnd]
   ·have hk:(x.kid t j).sn=x.sn:=by
     unfold Sc.kid
     rw[if_neg k10,if_neg (fun q=>j1 q.2),if_neg (fun q=>by omega)]
    rw[hk]
    simp -implicitDefEqProofs only[qjK,bs0,pvc,o1,k17,e1,j1,za8,qbc,qb1,qbj,qad,qaf,zaj,decide_true,decide_false,qaa,cond_true,cond_false,qaj,zab,zaa,cnd]
  ·have hk:(x.kid t j).sn=x.sn:=by
    unfold Sc.kid
    rw[if_neg k10,if_neg (fun q=>k17 q.1)]
    split<;>rfl
   rw[hk]
   simp -implicitDefEqProofs only[qjK,bs0,pvc,o1,k10,k17,za8,qbc,qb1,qbj,qad,qaf,decide_false,qaa,cond_false,qaj,zab,zaa,cnd]
end Go.AI.Tryz
namespace Go.AI.Tryz
theorem qjM (sm:Int->Bool):∀(l m:List (Sc×Tm)) (c:Nat),qcO sm (.ofNat c) (l++m)=qcO sm (.ofNat c) l++qcO sm (.ofNat (c+l.length)) m
 |[],m,c=>rfl
 |p::l,m,c=>by
  have e:Int.ofNat c+1=Int.ofNat (c+1):=rfl
  simp only[zaF,qcO,e,zar]
  rw[qjM sm l m (c+1),zaH,show c+1+l.length=c+(l.length+1) by omega]
theorem qdl {sm:Int->Bool}{l:List (Sc×Tm)}{c:Nat}{o:Of}(h:o∈qcO sm (.ofNat c) l):∃j,j<l.length/\o.2.1=Int.ofNat (c+j):=by
 obtain⟨j,p,i,h1,h2,_⟩:=qea h
 obtain⟨hj,_⟩:=zao.1 h1
 exact⟨j,hj,by rw[h2];rfl⟩
theorem qlh (x:Sc)(t:Tm)(c:Nat):qcO qcx (.ofNat c) (qbi t x)=qhH x t c 0++qcO qcx (.ofNat (c+1)) (qbe (fun j=>x.kid t j) 0 t.ks):=by
 rw[qc1]
 simp only[qcO]
 rw[qqJ]
 rfl
theorem qiM {x:Sc}{t:Tm}{c i:Nat}{o:Of}(h:o∈qhH x t c i):o.2.1=Int.ofNat c:=by
 unfold qhH at h
 rw[List.mem_filterMap] at h
 obtain⟨i2,_,h2⟩:=h
 rw[zad] at h2
 obtain⟨v,_,rfl⟩:=h2
 rfl
theorem qfI (a b:List Of):qeE (a++b)=qeE a++qeE b:=List.map_append
def qr9 (NS:List (Sc×Tm))(N d:Nat):Prop:=∀t x,t.size<=d->(∀p∈qbi t x,p∈NS)->∀E s l H c w dn tok y,s.heap=(l,.cells (VC c w dn tok y))::H->LG s tok y->c+t.size<=1000000000->y.length+22*t.size<=100000000->
 ((∀o∈qcO qcx (.ofNat c) (qbi t x),(o.1,o.2.1)≠w)->∃s' tok',cl (qag CP N E) 70 [.ptr l 0,t.v,pv x] s=some (t.v,s')/\s'.heap=(l,.cells (VC (c+t.size) w dn tok' (y++qeE (qcO qcx (.ofNat c) (qbi t x)))))::H/\s'.next=s.next/\Vs s tok y s' tok' (y++qeE (qcO qcx (.ofNat c) (qbi t x))))/\
 (∀o∈qcO qcx (.ofNat c) (qbi t x),(o.1,o.2.1)=w->∃s' tok' c' y',cl (qag CP N E) 70 [.ptr l 0,t.v,pv x] s=some ((Tm.put1 o.2.2 (o.2.1-.ofNat c).toNat t).v,s')/\s'.heap=(l,.cells (VC c' w true tok' y'))::H/\s'.next=s.next/\Vs s tok y s' tok' y'/\o.2.1< .ofNat c'/\c'<=c+t.size/\y'.length<=y.length+22*t.size)
abbrev KT:=zA->Nat->List zA->List zA->List zA->List zA->List zA->List zA->ASt->Res
noncomputable def quw (e:Env) (n:Nat) (x0:zA):KT->KT:=fun h85 x76 g77 c78 c79 c80 c81 c82 c83 s84=>
 (ldL c78 4 none).bind fun x86=>
 (ln false x86).bind fun x87=>
 (bn .lss x76 x87).bind fun x88=>
 qae x88 ((ldL c79 0 (some 2)).bind fun x89=>
 (zA.cells (some 2) x89).bind fun c90=>
 cnd (Nat.beq (g77+1) (g77+1)) ((over [(.sl 0 [] .full),(i64 0)] 0 c90).bind fun c91=>
 (ldL c78 0 none).bind fun x92=>
 (bn .eql x92 (u8 10)).bind fun x93=>
 jn (s70_1 e n x76 g77 x0 h85) fun j115=>
 qae x93 ((ldL c79 0 none).bind fun x116=>
 (ldL c78 1 none).bind fun x117=>
 qac (cl e 122 [x117] s84) fun x118 s119=>
 qac (cl e 119 [x116,x118] s119) fun x120 s121=>
 (zA.cells none x120).bind fun c122=>
 cnd (Nat.beq (g77+1) (g77+1)) ((over c91 0 c122).bind fun c123=>
 j115 c78 c79 c80 c81 c82 c123 s121) none)
 (jn (s70_3 e n j115 c79 c78 s84 g77 c91 c80 c81 c82) fun j147=>
 (ldL c78 0 none).bind fun x148=>
 (bn .eql x148 (u8 17)).bind fun x149=>
 qae x149 ((bn .eql x76 (i64 1)).bind fun x150=>
 j147 x150)
 (j147 (bl false)))) none)
 ((ldL c82 0 (some 5)).bind fun x151=>
 (zA.cells (some 5) x151).bind fun c152=>
 (over c80 0 c152).bind fun c153=>
 (ldL c153 0 (some 5)).bind fun x154=>
 some (x154,s84))
theorem s70_4_lp (e:Env)(n:Nat)(x0:zA):s70_4 e n x0=lp (fun _ _ _ _ _ _ _ _ _=>none) (quw e n x0) n:=rfl
section
variable {N:Nat} {E:qaR} {x:Sc} {t:Tm} (hp:KidP N x t) (htop:x.top<=Int.ofNat x.ids.length) {l:Nat} (hlen:t.ks.length<=1000000)
include hp htop hlen
theorem qhI {f:Nat->List zP}{j g tk:Nat}{c81 c83:List zA}{s s1:ASt}{u r:Tm}(hu:t.ks[j]? =some u)(hv:cl (qag CP N E) 70 [.ptr l 0,u.v,pv (x.kid t j)] s=some (r.v,s1)){tk':Nat}{s2:ASt}(ha:ap (qag CP N E) 5 56 (qb0 f tk j) (.sl 1 r.cells .full) s1=some (qb0 f tk' (j+1),s2))(L:KT):
  quw (qag CP N E) N (.ptr l 0) L (i64 (.ofNat j)) g t.c [sw x.sn,i64 x.top] Zt c81 (oc t (qb0 f tk j)) c83 s=L (i64 (.ofNat (j+1))) (g+1) t.c [sw x.sn,i64 x.top] Zt c81 (oc t (qb0 f tk' (j+1))) [sw (x.kid t j).sn,i64 x.top] s2:=by
 have hj:j<t.ks.length:=(zao.1 hu).1
 have hpv:pv (x.kid t j)=.agg [sw (x.kid t j).sn,i64 x.top]:=by rw[pv,qqK]
 rw[hpv] at hv
 have hplace:=qqL (E:=E) htop hp hj g Zt c81 (oc t (qb0 f tk j)) s (s70_1 (qag CP N E) N (i64 (.ofNat j)) g (.ptr l 0) L)
 have hfin:s70_1 (qag CP N E) N (i64 (.ofNat j)) g (.ptr l 0) L t.c [sw x.sn,i64 x.top] Zt c81 (oc t (qb0 f tk j)) [sw (x.kid t j).sn,i64 x.top] s=L (i64 (.ofNat (j+1))) (g+1) t.c [sw x.sn,i64 x.top] Zt c81 (oc t (qb0 f tk' (j+1))) [sw (x.kid t j).sn,i64 x.top] s2:=by
  unfold s70_1
  simp -implicitDefEqProofs only[oc4,Tm.ia_kid hj,Tm.ld_kid _ _ hu,za8,qjK,hv,qwR _ [.int .u8 0,.int .i64 0,.int .i64 0,.int .i64 0,.sl 0 []] rfl,ha,qhG,oco,qaN (show j<9223372036854775807 by omega),qbj,qad,qaw,zab,zaa,qab,cnd]
 rw[hfin] at hplace
 rw[<-hplace]
 unfold quw
 generalize s70_1 (qag CP N E) N=G1
 generalize s70_3 (qag CP N E) N=G3
 rw[show ldL t.c 4 none=some (.p (.sl t.ks.length (Tm.cellsL t.ks))) from rfl,zaa,qbq,zaa,qad,qao,zab,zaa,decide_eq_true (of_lt.2 hj),qaa,cond_true]
end
theorem qux {N:Nat}{E:qaR}{x:Sc}{t:Tm}{l g:Nat}{c81 c83:List zA}{s:ASt}(L:KT)(v:zA):quw (qag CP N E) N (.ptr l 0) L (i64 (.ofNat t.ks.length)) g t.c [sw x.sn,i64 x.top] Zt c81 (oc t v) c83 s=some (.agg (oc t v),s):=by
 have h3:¬(Int.ofNat t.ks.length<Int.ofNat t.ks.length):=fun h=>zaX _ (of_lt.1 h)
 unfold quw
 generalize s70_1 (qag CP N E) N=G1
 generalize s70_3 (qag CP N E) N=G3
 simp -implicitDefEqProofs only[h3,ocl,occ,ocz,qbc,qb1,qbj,qad,qaf,qao,decide_false,qaa,cond_false,qaj,zab,zaa,qbq,cnd]
end Go.AI.Tryz
namespace Go.AI.Tryz
theorem qdW:∀(q:List (Sc×Tm)) (c:Nat),(qcO qcx (.ofNat c) q).length<=22*q.length
 |[],_=>zaY _
 |p::q,c=>by
  simp only[qcO,zaw,zar]
  have:(qdv qcx p.1 p.2 (.ofNat c)).length<=22:=by rw[qqJ];exact qnz _ _ _ _
  have e:Int.ofNat c+1=Int.ofNat (c+1):=rfl
  rw[e]
  have:=qdW q (c+1)
  omega
abbrev kzL:KT:=fun _ _ _ _ _ _ _ _ _=>none
section
variable {NS:List (Sc×Tm)} {N d:Nat} (ih:qr9 NS N d) {E:qaR} {x:Sc} {t:Tm} (hp:KidP N x t) (htop:x.top<=Int.ofNat x.ids.length) {l:Nat} {H:qaR} {w:Rw} {s0:ASt} {k0:Nat} {y0:List Rw} (hd:∀u∈t.ks,u.size<=d) (hlen:t.ks.length<=1000000)
include ih hp htop hd hlen
theorem qqM:∀(r ps done:List Tm) (j k g c:Nat) (dn:Bool) (tk:Nat) (c81 c83:List zA) (s:ASt) (tok:Nat) (y:List Rw),t.ks=done++r->done.length=j->ps.length=j->r.length<k->s.heap=(l,.cells (VC c w dn tok y))::H->KI s0.ntok s j tk tok y->Vs s0 k0 y0 s tok y->
  c+Tm.sizeL r<=1000000000->y.length+22*Tm.sizeL r<=100000000->(∀p∈qbe (fun j=>x.kid t j) j r,p∈NS)->(∀o∈qcO qcx (.ofNat c) (qbe (fun j=>x.kid t j) j r),(o.1,o.2.1)≠w)->
  ∃tk' s' tok',lp kzL (quw (qag CP N E) N (.ptr l 0)) k (i64 (.ofNat j)) g t.c [sw x.sn,i64 x.top] Zt c81 (oc t (qb0 (fun i=>Tm.cellsL ((ps++r).take i)) tk j)) c83 s=some (.agg (oc t (qb0 (fun i=>Tm.cellsL ((ps++r).take i)) tk' (ps++r).length)),s')/\
   s'.heap=(l,.cells (VC (c+Tm.sizeL r) w dn tok' (y++qeE (qcO qcx (.ofNat c) (qbe (fun j=>x.kid t j) j r)))))::H/\s'.next=s.next/\Vs s0 k0 y0 s' tok' (y++qeE (qcO qcx (.ofNat c) (qbe (fun j=>x.kid t j) j r)))
 |[],ps,done,j,k,g,c,dn,tk,c81,c83,s,tok,y,h1,h2,h3,hk,hs,hki,hv,_,_,_,_=>by
  obtain⟨k,rfl⟩:∃m,k=m+1:=⟨k-1,by simp only[zaB] at hk;omega⟩
  have hj:j=t.ks.length:=by rw[h1];simp[h2]
  subst hj
  refine⟨tk,s,tok,?_,by simp only[qbe,qcO,Tm.sizeL,zbn,zbg,zbk];exact hs,rfl,by simp only[qbe,qcO,zbn,zbg];exact hv⟩
  rw[qa6,zbg,h3]
  exact qux _ _
 |u::r,ps,done,j,k,g,c,dn,tk,c81,c83,s,tok,y,h1,h2,h3,hk,hs,hki,hv,hc,hy,hm,hno=>by
  obtain⟨k,rfl⟩:∃m,k=m+1:=⟨k-1,by simp only[zar] at hk;omega⟩
  simp only[zar,Tm.sizeL] at hk hc hy
  have hu:t.ks[j]? =some u:=by rw[h1,zaC (by omega),h2];simp
  have hjl:j<t.ks.length:=(zao.1 hu).1
  have hum:u∈t.ks:=zaM hu
  simp only[qbe] at hm hno⊢
  rw[qjM,qbO] at hno⊢
  obtain⟨s1,tok1,a1,a2,a3,a4⟩:=(ih u (x.kid t j) (hd u hum) (fun p q=>hm p (List.mem_append_left _ q)) E s l H c w dn tok y hs hv.lg (by omega) (by omega)).1 (fun o ho=>hno o (List.mem_append_left _ ho))
  have hv1:=hv.trans a4
  have hoL:=qdW (qbi u (x.kid t j)) c
  rw[qbO] at hoL
  obtain⟨tk',s2,b1,b2,b3,b4,b5⟩:=qmf (qag CP N E) (f:=fun i=>Tm.cellsL ((ps++u::r).take i)) (u:=u) (hki.visit a4) hv1 (by omega) (by
   have:(ps++u::r)[j]'(by simp[h3])=u:=by simp[<-h3]
   have h:=qbL (ks:=ps++u::r) (j:=j) (by simp[h3])
   rw[this] at h
   exact h)
  obtain⟨tk2,s3,tok3,d1,d2,d3,d4⟩:=qqM r (ps++[u]) (done++[u]) (j+1) k (g+1) (c+u.size) dn tk' c81 [sw (x.kid t j).sn,i64 x.top] s2 tok1 _ (by rw[h1];simp) (by simp[h2]) (by simp[h3]) (by omega) (b2.trans a2) b4 b5 (by omega)
   (by rw[zaw,zaZ];omega) (fun p q=>hm p (List.mem_append_right _ q)) (fun o ho=>hno o (List.mem_append_right _ ho))
  have e1:(ps++[u])++r=ps++u::r:=by simp
  rw[e1] at d1
  rw[show c+u.size+Tm.sizeL r=c+(u.size+Tm.sizeL r) by omega,zaH,<-qfI] at d2
  rw[zaH,<-qfI] at d4
  refine⟨tk2,s3,tok3,?_,d2,d3.trans (b3.trans a3),d4⟩
  rw[qa6]
  exact(qhI hp htop hlen hu a1 b1 _).trans d1
end
end Go.AI.Tryz
namespace Go.AI.Tryz
theorem qqN (u:Tm)(j:Nat)(k:Tm)(r:List Tm):Tm.putL u j (k::r)=if j<k.size then Tm.put1 u j k::r else k::Tm.putL u (j-k.size) r:=by rw[Tm.putL]
theorem qmg (sc:Nat->Sc)(j:Nat)(r:List Tm):(qbe sc j r).length=Tm.sizeL r:=qf6 r sc j
section
variable {NS:List (Sc×Tm)} {N d:Nat} (ih:qr9 NS N d) {E:qaR} {x:Sc} {t:Tm} (hp:KidP N x t) (htop:x.top<=Int.ofNat x.ids.length) {l:Nat} {H:qaR} {w:Rw} {s0:ASt} {k0:Nat} {y0:List Rw} (hd:∀u∈t.ks,u.size<=d) (hlen:t.ks.length<=1000000)
include ih hp htop hd hlen
theorem qsT:∀(r ps done:List Tm) (j k g c:Nat) (dn:Bool) (tk:Nat) (c81 c83:List zA) (s:ASt) (tok:Nat) (y:List Rw),t.ks=done++r->done.length=j->ps.length=j->r.length<k->s.heap=(l,.cells (VC c w dn tok y))::H->KI s0.ntok s j tk tok y->Vs s0 k0 y0 s tok y->
  c+Tm.sizeL r<=1000000000->y.length+22*Tm.sizeL r<=100000000->(∀p∈qbe (fun j=>x.kid t j) j r,p∈NS)->∀o∈qcO qcx (.ofNat c) (qbe (fun j=>x.kid t j) j r),(o.1,o.2.1)=w->∀q,q=ps++Tm.putL o.2.2 (o.2.1-.ofNat c).toNat r->
  ∃tk' s' tok' c' y',lp kzL (quw (qag CP N E) N (.ptr l 0)) k (i64 (.ofNat j)) g t.c [sw x.sn,i64 x.top] Zt c81 (oc t (qb0 (fun i=>Tm.cellsL (q.take i)) tk j)) c83 s=some (.agg (oc t (qb0 (fun i=>Tm.cellsL (q.take i)) tk' q.length)),s')/\
   s'.heap=(l,.cells (VC c' w true tok' y'))::H/\s'.next=s.next/\Vs s0 k0 y0 s' tok' y'/\o.2.1< .ofNat c'/\c'<=c+Tm.sizeL r/\y'.length<=y.length+22*Tm.sizeL r
 |[],ps,done,j,k,g,c,dn,tk,c81,c83,s,tok,y,_,_,_,_,_,_,_,_,_,_,o,ho,_,_,_=>by simp only[qbe,qcO] at ho;cases ho
 |u::r,ps,done,j,k,g,c,dn,tk,c81,c83,s,tok,y,h1,h2,h3,hk,hs,hki,hv,hc,hy,hm,o,ho,hw,q,hq=>by
  obtain⟨k,rfl⟩:∃m,k=m+1:=⟨k-1,by simp only[zar] at hk;omega⟩
  simp only[zar,Tm.sizeL] at hk hc hy
  have hu:t.ks[j]? =some u:=by rw[h1,zaC (by omega),h2];simp
  have hjl:j<t.ks.length:=(zao.1 hu).1
  have hum:u∈t.ks:=zaM hu
  simp only[qbe] at hm ho
  rw[qjM,qbO,zaI] at ho
  rw[qqN] at hq
  have IH:=ih u (x.kid t j) (hd u hum) (fun p hp=>hm p (List.mem_append_left _ hp)) E s l H c w dn tok y hs hv.lg (by omega) (by omega)
  have hw2:w.2=o.2.1:=by rw[<-hw]
  rcases ho with ho|ho
  ·obtain⟨i,hi,hpl⟩:=qdl ho
   rw[qbO] at hi
   obtain⟨s1,tok1,c1,y1,a1,a2,a3,a4,a5,a6,a7⟩:=IH.2 o ho hw
   have hv1:=hv.trans a4
   have hlt:(o.2.1-Int.ofNat c).toNat<u.size:=by rw[hpl];simp only[zaf];omega
   rw[if_pos hlt] at hq
   generalize hr1:Tm.put1 o.2.2 (o.2.1-Int.ofNat c).toNat u=r1 at hq a1
   subst hq
   obtain⟨tk',s2,b1,b2,b3,b4,b5⟩:=qmf (qag CP N E) (f:=fun i=>Tm.cellsL ((ps++r1::r).take i)) (u:=r1) (hki.visit a4) hv1 (by omega) (by
    have:(ps++r1::r)[j]'(by simp[h3])=r1:=by simp[<-h3]
    have h:=qbL (ks:=ps++r1::r) (j:=j) (by simp[h3])
    rw[this] at h
    exact h)
   obtain⟨tk2,s3,tok3,d1,d2,d3,d4⟩:=qqM ih hp htop hd hlen r (ps++[r1]) (done++[u]) (j+1) k (g+1) c1 true tk' c81 [sw (x.kid t j).sn,i64 x.top] s2 tok1 y1 (by rw[h1];simp) (by simp[h2]) (by simp[h3]) (by omega) (b2.trans a2) b4 b5 (by omega) (by omega)
    (fun p q=>hm p (List.mem_append_right _ q)) (fun o' ho' he=>by
     obtain⟨i',_,hi'⟩:=qdl ho'
     have:o'.2.1=w.2:=by rw[<-he]
     rw[hw2,hi'] at this
     simp only[zaf] at this a5
     omega)
   have e1:(ps++[r1])++r=ps++r1::r:=by simp
   rw[e1] at d1
   have hol:=qdW (qbe (fun j=>x.kid t j) (j+1) r) c1
   rw[qmg] at hol
   refine⟨tk2,s3,tok3,_,_,?_,d2,d3.trans (b3.trans a3),d4,?_,by simp only[Tm.sizeL];omega,?_⟩
   ·rw[qa6]
    exact(qhI hp htop hlen hu a1 b1 _).trans d1
   ·simp only[zaf] at a5⊢;omega
   ·simp only[zaw,zaZ,Tm.sizeL];omega
  ·obtain⟨i,hi,hpl⟩:=qdl ho
   obtain⟨s1,tok1,a1,a2,a3,a4⟩:=IH.1 (fun o' ho' he=>by
    obtain⟨i',hi',hp'⟩:=qdl ho'
    rw[qbO] at hi'
    have:o'.2.1=w.2:=by rw[<-he]
    rw[hw2,hp',hpl] at this
    simp only[zaf] at this
    omega)
   have hv1:=hv.trans a4
   have hlt:¬(o.2.1-Int.ofNat c).toNat<u.size:=by rw[hpl];simp only[zaf];omega
   rw[if_neg hlt] at hq
   have he:(o.2.1-Int.ofNat c).toNat-u.size=(o.2.1-Int.ofNat (c+u.size)).toNat:=by rw[hpl];simp only[zaf];omega
   rw[he] at hq
   have hoL:=qdW (qbi u (x.kid t j)) c
   rw[qbO] at hoL
   have hql:j<q.length:=by rw[hq];simp[h3]
   obtain⟨tk',s2,b1,b2,b3,b4,b5⟩:=qmf (qag CP N E) (f:=fun i=>Tm.cellsL (q.take i)) (u:=u) (hki.visit a4) hv1 (by omega) (by
    have:q[j]'hql=u:=by simp[hq,<-h3]
    have h:=qbL (ks:=q) (j:=j) hql
    rw[this] at h
    exact h)
   obtain⟨tk2,s3,tok3,c3,y3,d1,d2,d3,d4,d5,d6,d7⟩:=qsT r (ps++[u]) (done++[u]) (j+1) k (g+1) (c+u.size) dn tk' c81 [sw (x.kid t j).sn,i64 x.top] s2 tok1 _ (by rw[h1];simp) (by simp[h2]) (by simp[h3]) (by omega) (b2.trans a2) b4 b5 (by omega)
    (by rw[zaw,zaZ];omega) (fun p q=>hm p (List.mem_append_right _ q)) o ho hw q (by rw[hq];simp)
   rw[zaw,zaZ] at d7
   refine⟨tk2,s3,tok3,c3,y3,?_,d2,d3.trans (b3.trans a3),d4,d5,by simp only[Tm.sizeL];omega,by simp only[Tm.sizeL];omega⟩
   rw[qa6]
   exact(qhI hp htop hlen hu a1 b1 _).trans d1
end
theorem qnA {NS:List (Sc×Tm)}(hR:∀p∈NS,Rd p.1 p.2)(hM:Ev fun N=>∀p∈NS,(∀i,i<22->∀E s,cl (qag CP N E) 121 [pv p.1,u8 (.ofNat (i+1)),p.2.v] s=some (qc8 (qbn i p.1 p.2),s))/\KidP N p.1 p.2):∀d,d<=1000000->Ev fun N=>qr9 NS N d
 |0,_=>Ev.of fun N t x h=>by have:=t.size_pos;omega
 |d+1,hd1=>by
  refine Ev.succ (((qnA hR hM d (by omega)).and (hM.and (Ev.ge (d+30)))).mono fun N ⟨ih,hM,hN⟩ t x hsz hmem E s l H c w dn tok y hs hlg hc hy=>?_)
  have hself:(x,t)∈NS:=hmem _ (by rw[qc1];exact zau ..)
  have hRd:=hR _ hself
  obtain⟨hMk,hKp⟩:=hM _ hself
  have hKp:KidP N x t:=hKp
  have htop:x.top<=Int.ofNat x.ids.length:=hRd.top
  have hts:=Tm.size_ks t
  have hlen:=Tm.len_le_size t.ks
  have hdk:∀u∈t.ks,u.size<=d:=fun u hu=>by have:=qa5 hu;omega
  have hmk:∀p∈qbe (fun j=>x.kid t j) 0 t.ks,p∈NS:=fun p hp=>hmem p (by rw[qc1];exact zax _ hp)
  have call:∀(r:Tm) (v:zA) (s':ASt),s70 (qag CP N E) N (.ptr l 0) t.v (pv x) s=some (v,s')->qaD v=r.v->cl (qag CP (N+1) E) 70 [.ptr l 0,t.v,pv x] s=some (r.v,s'):=fun r v s' h1 h2=>by
   rw[qb4]
   exact qfy (cf:=cf70) (np:=3) (args':=[.ptr l 0,t.v,pv x]) (v:=v) (by kernel_rfl) (by kernel_rfl) rfl (by simp only[zap,qak];rfl) (by simp only[zam,qai];rfl) ((s70_eq _ _ _ _ _ _).trans h1) h2 (by rw[Tm.v_eq];rfl)
  have hcell:qar (qag CP N E).E s l=some (VC c w dn tok y):=qaS hs
  have hst:=qqT (o:=0) (cs:=[i64 (.ofNat (c+1))]) (new:=VC (c+1) w dn tok y) hs rfl rfl
  have beg:s70 (qag CP N E) N (.ptr l 0) t.v (pv x) s=s70_5 (qag CP N E) N (.ptr l 0) (i64 (.ofNat c)) (u8 1) 0 t.c [sw x.sn,i64 x.top] Zt [] [] [] {s with heap:=(l,.cells (VC (c+1) w dn tok y))::H}:=by
   unfold s70
   generalize s70_5 (qag CP N E) N=G
   simp -implicitDefEqProofs only[pvc,qeb,zaK,ldP hcell,vc0,qaN (show c<9223372036854775807 by omega),cni,hst,qah,qad,qaw,zab,zaa,qbD]
  have hv0:Vs s tok y {s with heap:=(l,.cells (VC (c+1) w dn tok y))::H} tok y:=(Vs.refl hlg).heap _
  have rl:=qon (N:=N) (E:=E) (x:=x) (t:=t) (c:=c) (l:=l) (w:=w) (dn:=dn) (H:=H) (by omega) (fun i hi s=>hMk i hi E s) {s with heap:=(l,.cells (VC (c+1) w dn tok y))::H} tok y rfl hlg (by omega)
  have hki0:∀s1 tok1 y1,KI s.ntok s1 0 0 tok1 y1:=fun _ _ _ h=>by omega
  have hoL:=qnz x t c 0
  constructor
  ·intro hno
   rw[qlh] at hno⊢
   obtain⟨c22,s1,tok1,a1,a2,a3,a4⟩:=rl.1 (fun o ho=>hno o (List.mem_append_left _ ho))
   have hv1:=hv0.trans a4
   obtain⟨tk2,s3,tok3,d1,d2,d3,d4⟩:=qqM ih hKp htop hdk (by omega) t.ks [] [] 0 N 0 (c+1) dn 0 c22 [] s1 tok1 _ rfl rfl rfl (by omega) a2 (hki0 _ _ _) hv1 (by omega) (by rw[zaw,zaZ];omega) hmk (fun o ho=>hno o (List.mem_append_right _ ho))
   rw[show c+1+Tm.sizeL t.ks=c+t.size by omega,zaH,<-qfI] at d2
   rw[zaH,<-qfI] at d4
   refine⟨s3,tok3,call t _ s3 (beg.trans (a1.trans ?_)) (qgI t t.ks tk2 rfl rfl),d2,d3.trans a3,d4⟩
   rw[s70_4_lp]
   exact d1
  ·intro o ho hw
   rw[qlh,zaI] at ho
   have hw2:w.2=o.2.1:=by rw[<-hw]
   rcases ho with ho|ho
   ·have hpl:=qiM ho
    obtain⟨s1,tok1,y1,a1,a2,a3,a4,a5⟩:=rl.2 o ho hw
    have e0:(o.2.1-Int.ofNat c).toNat=0:=by rw[hpl];simp only[zaf];omega
    rw[e0]
    have e1:Tm.put1 o.2.2 0 t=o.2.2:=by unfold Tm.put1;rfl
    rw[e1]
    refine⟨s1,tok1,c+1,y1,call o.2.2 _ s1 (beg.trans a1) (qai _),a2,a3,hv0.trans a4,by rw[hpl];simp only[zaf];omega,by omega,by omega⟩
   ·obtain⟨i,hi,hpl⟩:=qdl ho
    obtain⟨c22,s1,tok1,a1,a2,a3,a4⟩:=rl.1 (fun o' ho' he=>by
     have h1:=qiM ho'
     have:o'.2.1=w.2:=by rw[<-he]
     rw[hw2,h1,hpl] at this
     simp only[zaf] at this
     omega)
    have hv1:=hv0.trans a4
    obtain⟨tk2,s3,tok3,c3,y3,d1,d2,d3,d4,d5,d6,d7⟩:=qsT ih hKp htop hdk (by omega) t.ks [] [] 0 N 0 (c+1) dn 0 c22 [] s1 tok1 _ rfl rfl rfl (by omega) a2 (hki0 _ _ _) hv1 (by omega) (by rw[zaw,zaZ];omega) hmk o ho hw _ rfl
    rw[zaw,zaZ] at d7
    have e0:(o.2.1-Int.ofNat c).toNat=(o.2.1-Int.ofNat (c+1)).toNat+1:=by rw[hpl];simp only[zaf];omega
    rw[e0,Tm.put1_succ]
    refine⟨s3,tok3,c3,y3,call _ (.agg (oc t (qb0 (fun i=>Tm.cellsL (([]++Tm.putL o.2.2 (o.2.1-Int.ofNat (c+1)).toNat t.ks).take i)) tk2 ([]++Tm.putL o.2.2 (o.2.1-Int.ofNat (c+1)).toNat t.ks).length))) s3 (beg.trans (a1.trans ?_)) ?_,d2,d3.trans a3,d4,d5,by omega,by omega⟩
    ·rw[s70_4_lp]
     exact d1
    ·exact qgI (t.with (Tm.putL o.2.2 (o.2.1-Int.ofNat (c+1)).toNat t.ks)) (Tm.putL o.2.2 (o.2.1-Int.ofNat (c+1)).toNat t.ks) tk2 rfl rfl
end Go.AI.Tryz
namespace Go.AI.Tryz
theorem qec {a:Ar}{t:Tm}(h:qbN a t=0):qbX a=0/\t.size<=600:=by
 unfold qbN at h
 split at h
 ·rename_i h0;exact absurd h h0
 ·rename_i h0
  split at h
  ·omega
  ·exact⟨by simpa using h0,by omega⟩
theorem quy {a:Ar}{t:Tm}(h:qbN a t=0)(ok:t.Ok)(h1:a.ids.length<=100000):Rd (qaB a) t:=by
 obtain⟨h2,h3⟩:=qec h
 refine⟨ql3 h ok h1 (by omega),(qld h2).1,?_,?_,?_⟩
 ·simp only[qaB,zaZ];exact Int.le_refl _
 ·show(0:Int)+_<=_;omega
 ·simp only[qaB,zaZ];omega
theorem qnB:∀(d:Nat) (t:Tm) (x:Sc),t.size<=d->Rd x t->∀p∈qbi t x,Rd p.1 p.2
 |0,t,_,h,_=>by have:=t.size_pos;omega
 |d+1,t,x,hd,h=>by
  intro p hp
  rw[qc1,zaA] at hp
  rcases hp with rfl|hp
  ·exact h
  ·have hk:∀(r done:List Tm) (j:Nat),t.ks=done++r→done.length=j→∀p∈qbe (fun j=>x.kid t j) j r,Rd p.1 p.2:=by
    intro r
    induction r with
    |nil=>intro done j _ _ p hp;simp[qbe] at hp
    |cons u r ih=>
     intro done j h1 h2 p hp
     have hu:t.ks[j]? =some u:=by rw[h1,zaC (by omega),h2];simp
     have hlt:=qa5 (zaM hu)
     simp only[qbe,zaI] at hp
     rcases hp with hp|hp
     ·exact qnB d u (x.kid t j) (by omega) (h.kid hu) p hp
     ·exact ih (done++[u]) (j+1) (by rw[h1];simp) (by simp[h2]) p hp
   exact hk t.ks [] 0 rfl rfl p hp
theorem qiN {a:Ar}{t:Tm}(h:qbN a t=0)(ok:t.Ok)(h1:a.ids.length<=100000):Ev fun N=>qr9 (qbi t (qaB a)) N t.size:=by
 have hr:=quy h ok h1
 have hR:=qnB t.size t (qaB a) (zan _) hr
 have h3:=(qec h).2
 refine qnA hR (Ev.all _ fun p hp=>?_) t.size (by omega)
 have h22:Ev fun N=>∀i∈List.range 22,∀E s,cl (qag CP N E) 121 [pv p.1,u8 (.ofNat (i+1)),p.2.v] s=some (qc8 (qbn i p.1 p.2),s):=Ev.all _ fun i hi=>qwp (hR p hp) i (zba.1 hi)
 exact(h22.and (quv (hR p hp))).mono fun N ⟨g1,g2⟩=>⟨fun i hi=>g1 i (zba.2 hi),g2⟩
theorem qqO (a:Ar)(h1:a.ids.length<=1000000):PC CP 71 [a.v] (pv (qaB a)):=by
 have hf:=qns a h1
 rw[<-qiK] at hf
 refine PC.of2 (cf:=cf71) (np:=1) (args':=[a.v]) (by kernel_rfl) (by kernel_rfl) rfl rfl rfl (fun _=>rfl) (hf.mono fun N h E s=>⟨pv (qaB a),s,(s71_eq _ _ _ _).trans ?_,rfl⟩)
 have hl0:ldL [.p (.sl a.ids.length (qaQ Ty.cells a.ids)),bl a.root.cell,i64 a.root.n,bl a.jumps] 0 none=some (.p (.sl a.ids.length (qaQ Ty.cells a.ids))):=rfl
 have hb:∀l:List Sn,∀n:Int,bd [.sl 0 [] .full,i64 0] [(0,none,.c (sw l)),(1,none,.c (i64 n))]=some (.agg [sw l,i64 n]):=fun _ _=>rfl
 have ho:∀a b:zA,over [.sl 0 [] .full,i64 0] 0 [a,b]=some [a,b]:=fun _ _=>rfl
 have ht:(qaB a).top=Int.ofNat a.ids.length:=rfl
 unfold s71
 rw[pv,ht]
 simp only[qcQ,qhJ,h,hl0,hb,pvc,ho,qjK,zaa,qab,qbq]
abbrev qcX (a:Ar)(t:Tm):List Rw:=qeE (qeC a t)
theorem qsa {l:List (Sc×Tm)}{c:Nat}{o:Of}(h:o∈qcO qcx (.ofNat c) l):1<=o.1:=by
 obtain⟨j,p,i,_,_,_,h2,_⟩:=qea h
 rw[h2]
 simp only[zaf]
 omega
theorem quz (tok:Nat)(y:List Rw):qaD (qbT tok y)=qiE y:=by cases y<;>rfl
theorem quA (a:Ar)(t:Tm)(h:qbN a t=0)(ok:t.Ok)(h1:a.ids.length<=100000):PC CP 47 [a.v,t.v] (qiE (qcX a t)):=by
 have h3:=(qec h).2
 refine PC.of2 (cf:=cf47) (np:=2) (args':=[a.v,t.v]) (by kernel_rfl) (by kernel_rfl) rfl (by simp only[zap,qak];rfl) (by simp only[zam,qai];rfl) (fun _=>rfl)
  (((qqO a (by omega)).and (qiN h ok h1)).mono fun N ⟨c71,hv⟩ E s=>?_)
 obtain⟨s1,tok,e1,e2,_,_⟩:=(hv t (qaB a) (zan _) (fun _ h=>h) E (qal s (.cells (VC 0 (0,0) false 0 []))) s.next s.heap 0 (0,0) false 0 [] rfl (fun h=>absurd rfl h) (by omega) (by simp only[zaB];omega)).1 (fun o ho he=>by
  have:=qsa ho
  rw[zaq] at he
  omega)
 have hc:qar (qag CP N E).E s1 s.next=some _:=qaS e2
 have hbd:bd [i64 0,u8 0,i64 0,bl false,.sl 0 [] .full] []=some (.agg (VC 0 (0,0) false 0 [])):=rfl
 have hcc:zA.cells (some 5) (.agg (VC 0 (0,0) false 0 []))=some (VC 0 (0,0) false 0 []):=rfl
 have haw:(VC 0 (0,0) false 0 []).all qaY=true:=rfl
 refine⟨qbT tok (qcX a t),s1,(s47_eq _ _ _ _ _).trans ?_,?_⟩
 ·unfold s47
  simp -implicitDefEqProofs only[qcQ,qhJ,qb3,hbd,hcc,haw,c71,e1,ldP hc,vc4,qah,zaa,qab,qa3,cnd]
  rfl
 ·exact quz tok (qcX a t)
def qli (a:Ar)(t:Tm)(w:Rw):Tm×Bool:=match qok a t w with
 |some u=>(u,true)
 |none=>(t,false)
theorem qsb {a:Ar}{t:Tm}{w:Rw}(h:∀o∈qeC a t,(o.1,o.2.1)≠w):qok a t w=none:=by
 rw[qiI]
 cases hf:(qcO (fun k=>decide (k=w.1)) 0 (qbi t (qaB a))).find? fun q=>decide (q.1=w.1)&&decide (q.2.1=w.2) with
 |none=>rfl
 |some q=>
  have h1:=List.mem_of_find?_eq_some hf
  have h2:=List.find?_some hf
  simp only[zag,decide_eq_true_eq] at h2
  rw[qdw,List.mem_filter] at h1
  exact absurd (by rw[h2.1,h2.2]) (h q h1.1)
theorem qoo (b:Bool):qaT (some [bl b]) (some [bl b])=true:=by
 simp only[qaT,qdn,qfW,zat]
theorem qsc (a:Ar)(t:Tm)(w:Rw)(h:qbN a t=0)(ok:t.Ok)(h1:a.ids.length<=100000):PC CP 49 [a.v,t.v,rv w] (.tuple [(qli a t w).1.v,bl (qli a t w).2]):=by
 have h3:=(qec h).2
 have herr:∀(u:Tm) (b:Bool),qaD (.tuple [u.v,bl b])=.tuple [u.v,bl b]:=fun u b=>by rw[Tm.v_eq];rfl
 have hpl:∀(lo:Nat) (u:Tm) (b:Bool),qeh lo (.tuple [u.v,bl b])=true:=fun lo u b=>by rw[Tm.v_eq];rfl
 refine PC.of2 (cf:=cf49) (np:=3) (args':=[a.v,t.v,rv w]) (by kernel_rfl) (by kernel_rfl) rfl (by simp only[zap,qak];rfl) (by simp only[zam,qai];rfl) (fun lo=>hpl lo _ _)
  (((qqO a (by omega)).and (qiN h ok h1)).mono fun N ⟨c71,hv⟩ E s=>?_)
 have hv:=hv t (qaB a) (zan _) (fun _ h=>h) E (qal s (.cells (VC 0 w false 0 []))) s.next s.heap 0 w false 0 [] rfl (fun h=>absurd rfl h) (by omega) (by simp only[zaB];omega)
 have hcw:zA.cells (some 2) (rv w)=some [u8 w.1,i64 w.2]:=rfl
 have hbd:bd [i64 0,u8 0,i64 0,bl false,.sl 0 [] .full] [(1,some 2,.c (rv w))]=some (.agg (VC 0 w false 0 [])):=rfl
 have hcc:zA.cells (some 5) (.agg (VC 0 w false 0 []))=some (VC 0 w false 0 []):=rfl
 have haw:(VC 0 w false 0 []).all qaY=true:=rfl
 have fin:∀(u:Tm) (b:Bool) (s1:ASt) (c:Nat) (tok:Nat) (y:List Rw),cl (qag CP N E) 70 [.ptr s.next 0,t.v,pv (qaB a)] (qal s (.cells (VC 0 w false 0 [])))=some (u.v,s1)->s1.heap=(s.next,.cells (VC c w b tok y))::s.heap->s49 (qag CP N E) N a.v t.v (rv w) s=some (.tuple [u.v,bl b],s1):=fun u b s1 c tok y e1 e2=>by
  have hc:qar (qag CP N E).E s1 s.next=some (VC c w b tok y):=qaS e2
  have hlf:loadFrom (qag CP N E).E .nil s1 (.ptr s.next 3) 1=some [bl b]:=by
   unfold loadFrom
   simp only[hc,zaa]
   rfl
  unfold s49
  simp -implicitDefEqProofs only[qcQ,qhJ,qb3,hcw,qjK,hbd,hcc,haw,c71,e1,ldP hc,vc3,hlf,qoo,zat,qah,qav,zaa,qab,qa3,cnd]
 by_cases hex:∃o∈qeC a t,(o.1,o.2.1)=w
 ·obtain⟨o,ho,hw⟩:=hex
  obtain⟨s1,tok,c',y',e1,e2,_⟩:=hv.2 o ho hw
  have hd:qok a t w=some (qdV o.2.2 o.2.1 t):=by rw[<-hw];exact qnr ho
  have hp:qdV o.2.2 o.2.1 t=Tm.put1 o.2.2 (o.2.1-Int.ofNat 0).toNat t:=by
   obtain⟨j,hj,hpl⟩:=qdl (c:=0) ho
   rw[qbO] at hj
   unfold qdV
   rw[hpl,if_pos ⟨by simp only[zaf];omega,by simp only[zaf];omega⟩]
   have e:Int.ofNat (0+j)-Int.ofNat 0=Int.ofNat (0+j):=by simp only[zaf];omega
   rw[e]
  have hG:qli a t w=(Tm.put1 o.2.2 (o.2.1-Int.ofNat 0).toNat t,true):=by unfold qli;rw[hd,hp]
  rw[hG]
  exact⟨_,s1,(s49_eq _ _ _ _ _ _).trans (fin _ true s1 c' tok y' e1 e2),herr _ _⟩
 ·obtain⟨s1,tok,e1,e2,_⟩:=hv.1 (fun o ho he=>hex ⟨o,ho,he⟩)
  have hG:qli a t w=(t,false):=by unfold qli;rw[qsb fun o ho he=>hex ⟨o,ho,he⟩]
  rw[hG]
  exact⟨_,s1,(s49_eq _ _ _ _ _ _).trans (fin _ false s1 _ tok _ e1 e2),herr _ _⟩
end Go.AI.Tryz
namespace Go.AI.Tryz
theorem qxW:Tm.z.Ok:=.mk (by decide) (by decide) (by decide) (by decide) (by decide) (fun _ h=>by cases h)
end Go.AI.Tryz
namespace Go.AI.Tryz
open Go.Proofs
def quB:List TypeId:=[3,5,30,33,46]
theorem m30:30∈quB:=by simp[quB]
theorem lawTr_ok:qhf Go.Proofs.Tryz.prog quB=true:=by kernel_rfl
theorem arg_sl {P:Program}{ts:List TypeId}(hok:qhf P ts=true){t e:TypeId}(ht:t∈ts)(hu:P.underlying t=some (.slice e)){H:Type}{enc:TypeId×Value->H}{w:World}{base base':Nat}{spare:Nat->Bool}{held:Bool}{r:Reach}{v:Value}{d:DataW H}{ps:List MemPlace}(ho:Value.okWide P w r base t v)(h:DataW.Trod enc P w base' spare held t v d ps):
  ∃n c,HasT P n t [c]/\VR G00 w (.p c) v:=by
 have hv:v.cells= #[v]:=by
  cases v with
  |agg cs=>
   unfold Value.okWide at ho
   rw[hu] at ho
   unfold Cell.okWide at ho
   rw[hu] at ho
   unfold Cell.ok at ho
   rw[hu] at ho
   exact ho.elim
  |_=>rfl
 obtain⟨fuel,h⟩:=h
 rw[hv] at h
 obtain⟨pcs,hp⟩:=qix hok fuel t _ _ ht h
 obtain⟨h1,h2,h3,h4⟩:=hp
 obtain⟨c,rfl⟩:∃c,pcs=[c]:=by
  match pcs,h2 with
  |[c],_=>exact⟨c,rfl⟩
 exact⟨fuel,c,h1,.p c v ((h4 0 c v rfl rfl).mono fun ad u hu _=>⟨hu,trivial⟩)⟩
end Go.AI.Tryz
namespace Go.AI.Tryz
theorem quC (rs:List Int)(hl:rs.length<=1000000)(k:Int):PC CP 48 [u8s rs,u8 k] (bl (qci rs k)):=by
 refine PC.of2 (cf:=cf48) (np:=2) (args':=[u8s rs,u8 k]) (by kernel_rfl) (by kernel_rfl) rfl rfl rfl (fun _=>rfl) ((Ev.ge (rs.length+1)).mono fun N hN E s=>⟨bl (qci rs k),s,(s48_eq _ _ _ _ _).trans ?_,rfl⟩)
 unfold s48 s48_0
 refine qck _ _ rs.length (fun j (L:zA->Res)=>L (i64 (.ofNat j))) (fun j=>some (bl (qci (rs.drop j) k),s)) (fun j L hj ih=>?_) (fun L=>?_) N 0 (zaY _) (by omega)
 ·have hk:rs[j]? =some rs[j]:=zah hj
  have hld:ldH (qag CP N E) s (.elem (qaQ u8C rs) (j*1)) none=some (u8 rs[j]):=qeu (c:=u8C) (sz:=1) (fun _=>rfl) _ s hk (by omega)
  have hia:iaV 1 (u8s rs) (i64 (.ofNat j))=some (qaQ u8C rs,j*1):=qbR hj
  rw[zaz hj]
  have e:qci (rs[j]::rs.drop (j+1)) k=(decide (rs[j]=k)||qci (rs.drop (j+1)) k):=by
   unfold qci
   rw[List.any_cons,show decide (k=rs[j])=decide (rs[j]=k) from decide_eq_decide.2 eq_comm]
  rw[e]
  simp -implicitDefEqProofs only[of_lt.2 hj,hia,hld,qaN (show j<9223372036854775807 by omega),qad,qaf,qao,qaw,decide_true,qaa,cond_true,zab,zaa,qab,qbq]
  cases decide (rs[j]=k)
  ·simp only[cond_false,za6];exact ih
  ·rfl
 ·have h3:¬(Int.ofNat rs.length<Int.ofNat rs.length):=fun h=>zaX _ (of_lt.1 h)
  rw[List.drop_of_length_le (zan _)]
  simp -implicitDefEqProofs only[h3,qci,List.any_nil,qad,qao,qaw,decide_false,qaa,cond_false,zab,zaa,qbq]
abbrev OT:=zA->List zA->List zA->List zA->ASt->Res
noncomputable def F18 (e:Env) (n:Nat) (x2:zA):OT->OT:=fun h20 x15 c16 c17 c18 s19=>
 (ldL c16 0 (some 4)).bind fun x21=>
 (ldL c17 0 (some 5)).bind fun x22=>
 qac (cl e 47 [x21,x22] s19) fun x23 s24=>
 s18_1 e n x23 c17 c18 x15 c16 h20 x2 (i64 0) s24
theorem s18_2_lp (e:Env)(n:Nat)(x2:zA):s18_2 e n x2=lp (fun _ _ _ _ _=>none) (F18 e n x2) n:=rfl
abbrev qjN (rs:List Int)(l:List Rw):Nat:=l.findIdx fun w=>qci rs w.1
theorem qmh {N:Nat}{E:qaR}{rs:List Int}{l:List Rw}(hN:l.length+1<=N)(hl:l.length<=100000000)(c48:∀w∈l,∀s,cl (qag CP N E) 48 [u8s rs,u8 w.1] s=some (bl (qci rs w.1),s))(c17 c18 c16:List zA)(x15:zA)(h20:OT)(s:ASt):
  ∃L,s18_1 (qag CP N E) N (qiE l) c17 c18 x15 c16 h20 (u8s rs) (i64 0) s=s18_0 (qag CP N E) N (i64 (.ofNat (qjN rs l))) L (qiE l) c17 c18 x15 c16 h20 (bl false) s:=by
 have hle:qjN rs l<=l.length:=List.findIdx_le_length
 suffices h:∀k j,j<=qjN rs l->qjN rs l-j<k->∃L,lp (fun _ _=>none) (fun h27 x25 s26=>jn (s18_0 (qag CP N E) N x25 h27 (qiE l) c17 c18 x15 c16 h20) fun j62=>(ln false (qiE l)).bind fun x63=>(bn .lss x25 x63).bind fun x64=>
   qae x64 (qac (iaV 2 (qiE l) x25) fun q65 o66=>(ldH (qag CP N E) s26 (.elem q65 o66) none).bind fun x67=>qac (cl (qag CP N E) 48 [u8s rs,x67] s26) fun x68 s69=>(nt x68).bind fun x70=>j62 x70 s69) (j62 (bl false) s26)) k (i64 (.ofNat j)) s=s18_0 (qag CP N E) N (i64 (.ofNat (qjN rs l))) L (qiE l) c17 c18 x15 c16 h20 (bl false) s from h N 0 (zaY _) (by omega)
 intro k
 induction k with
 |zero=>intro j _ h;omega
 |succ k ih=>
  intro j hj hk
  rw[qa6]
  generalize hL:lp _ _ k=L at ih⊢
  by_cases hlt:j<l.length
  ·have hkj:l[j]? =some l[j]:=zah hlt
   have hld:∀s,ldH (qag CP N E) s (.elem (qaQ rwC l) (j*2)) none=some (u8 l[j].1):=fun s=>qeu (c:=rwC) (sz:=2) (fun _=>rfl) _ s hkj (by omega)
   have hc:=c48 l[j] (za4 hlt)
   rcases zbi j (qjN rs l) with h|h
   ·have hno:qci rs l[j].1=false:=by
     have:=List.not_of_lt_findIdx h
     simpa using this
    rw[hno] at hc
    obtain⟨L2,e⟩:=ih (j+1) (by omega) (by omega)
    refine⟨L2,?_⟩
    have st:s18_0 (qag CP N E) N (i64 (.ofNat j)) L (qiE l) c17 c18 x15 c16 h20 (bl true) s=L (i64 (.ofNat (j+1))) s:=by
     unfold s18_0
     simp -implicitDefEqProofs only[qaN (show j<9223372036854775807 by omega),qad,qaf,qaw,qaa,cond_true,zab,zaa,qbq]
    generalize s18_0 (qag CP N E) N=G at st e⊢
    simp -implicitDefEqProofs only[of_lt.2 hlt,qbR hlt,hld,hc,st,qad,qao,decide_true,zal,qaa,cond_true,qaj,zab,zaa,qab,qam,qbq]
    exact e
   ·have hjj:j=qjN rs l:=by omega
    have hyes:qci rs l[j].1=true:=by
     have:=List.findIdx_getElem (xs:=l) (p:=fun w=>qci rs w.1) (w:=by show qjN rs l<_;omega)
     simp only[hjj]
     exact this
    rw[hyes] at hc
    refine⟨L,?_⟩
    rw[<-hjj]
    generalize s18_0 (qag CP N E) N=G
    simp -implicitDefEqProofs only[of_lt.2 hlt,qbR hlt,hld,hc,qad,qao,decide_true,zak,qaa,cond_true,qaj,zab,zaa,qab,qam,qbq]
  ·have hjj:j=qjN rs l:=by omega
   have h3:¬(Int.ofNat j<Int.ofNat l.length):=fun h=>hlt (of_lt.1 h)
   refine⟨L,?_⟩
   rw[<-hjj]
   generalize s18_0 (qag CP N E) N=G
   simp -implicitDefEqProofs only[h3,qad,qao,decide_false,qaa,cond_false,qaj,zab,zaa,qbq]
theorem qgm {α:Type}(p:α->Bool):∀(l:List α),(l.findIdx p=l.length->l.filter p=[])/\(∀h:l.findIdx p<l.length,∃r,l.filter p=l[l.findIdx p]::r)
 |[]=>⟨fun _=>rfl,fun h=>by simp at h⟩
 |a::l=>by
  obtain⟨h1,h2⟩:=qgm p l
  cases hp:p a with
  |true=>
   have e:(a::l).findIdx p=0:=by rw[List.findIdx_cons,hp];rfl
   refine⟨fun h=>by rw[e] at h;simp at h,fun h=>⟨l.filter p,?_⟩⟩
   simp[hp,e]
  |false=>
   have e:(a::l).findIdx p=l.findIdx p+1:=by rw[List.findIdx_cons,hp];rfl
   refine⟨fun h=>?_,fun h=>?_⟩
   ·rw[e,zar] at h
    simp[hp,h1 (by omega)]
   ·have h':l.findIdx p<l.length:=by rw[e,zar] at h;omega
    obtain⟨r,hr⟩:=h2 h'
    refine⟨r,?_⟩
    rw[List.filter_cons,hp]
    simp only[zai,if_false,hr,e,List.getElem_cons_succ]
theorem quD (a:Ar)(t:Tm)(rs:List Int):(qjN rs (qcX a t)=(qcX a t).length->qcO (qci rs) 0 (qbi t (qaB a))=[])/\(qjN rs (qcX a t)<(qcX a t).length->∃o r,qcO (qci rs) 0 (qbi t (qaB a))=o::r/\(qcX a t)[qjN rs (qcX a t)]? =some (o.1,o.2.1)/\o∈qeC a t):=by
 have hf:qjN rs (qcX a t)=(qeC a t).findIdx fun o=>qci rs o.1:=by
  unfold qjN qcX qeE
  rw[List.findIdx_map]
  rfl
 have hl:(qcX a t).length=(qeC a t).length:=zaZ _
 have ho:qcO (qci rs) 0 (qbi t (qaB a))=(qeC a t).filter fun o=>qci rs o.1:=qdw _ _ _
 rw[hf,hl,ho]
 obtain⟨h1,h2⟩:=qgm (fun o:Of=>qci rs o.1) (qeC a t)
 refine⟨h1,fun h=>?_⟩
 obtain⟨r,hr⟩:=h2 h
 refine⟨_,r,hr,?_,za4 h⟩
 rw[za9,zah h]
 rfl
theorem qsd (t:Tm)(tok:Nat)(y:List Rw)(er:Int):qaD (.tuple [t.v,qbT tok y,i64 er])=qfj (t,y,er):=by
 show _=zA.tuple [t.v,qiE y,i64 er]
 rw[Tm.v_eq]
 cases y<;>rfl
theorem qjO (lo:Nat)(r:Tm×List Rw×Int):qeh lo (qfj r)=true:=by rw[qfj,Tm.v_eq];rfl
theorem qlj (a:Ar)(oa:a.Ok)(h1:a.ids.length<=100000)(rs:List Int)(hrs:rs.length<=1000000):∀(m:Nat) (t:Tm) (log:List Rw),Right a t->t.size<=100000->log.length+m=2001->1<=m->
  Ev fun n=>∀E s tok k,LG s tok log->m<k->∃v s',lp (fun _ _ _ _ _=>none) (F18 (qag CP n E) n (u8s rs)) k (qbT tok log) (ac a) t.c Zt s=some (v,s')/\qaD v=qfj (qhB a (qci rs) m t log)
 |0,_,_,_,_,_,h=>by omega
 |m+1,t,log,ht,hs,hm,_=>by
  have hfd:=quA a t ht.c ht.ok h1
  have hol:=qdW (qbi t (qaB a)) 0
  rw[qbO] at hol
  have hfl:(qcX a t).length<=22*t.size:=by rw[zaZ];exact hol
  have h48:Ev fun n=>∀w∈qcX a t,∀E s,cl (qag CP n E) 48 [u8s rs,u8 w.1] s=some (bl (qci rs w.1),s):=Ev.all _ fun w _=>quC rs hrs w.1
  obtain⟨q1,q2⟩:=quD a t rs
  rw[qeD]
  by_cases hidx:qjN rs (qcX a t)<(qcX a t).length
  ·obtain⟨o,r,ho,hg,hm2⟩:=q2 hidx
   rw[ho]
   have hdo:=qsc a t (o.1,o.2.1) ht.c ht.ok h1
   have hG:qli a t (o.1,o.2.1)=(qdV o.2.2 o.2.1 t,true):=by unfold qli;rw[qnr hm2]
   rw[hG] at hdo
   have hst:=qmb (a:=a) (t:=t) (o:=o) (sm:=qcx) ht h1 hs hm2
   have hne:¬(Int.ofNat (qjN rs (qcX a t))=Int.ofNat (qcX a t).length):=by simp only[zaf];omega
   have hld:∀n E s,ldH (qag CP n E) s (.elem (qaQ rwC (qcX a t)) (qjN rs (qcX a t)*2)) (some 2)=some (rv (o.1,o.2.1)):=fun n E s=>qdr (c:=rwC) (sz:=2) (fun _=>rfl) (qag CP n E) s hg
   by_cases h20:log.length=2000
   ·refine(hfd.and (h48.and (Ev.ge ((qcX a t).length+1)))).mono fun n ⟨c47,c48,hn⟩ E s tok k hlg hk=>?_
    obtain⟨k,rfl⟩:∃k',k=k'+1:=⟨k-1,by omega⟩
    rw[qa6]
    generalize lp _ _ k=L
    obtain⟨L2,e⟩:=qmh (E:=E) (rs:=rs) hn (by omega) (fun w hw s=>c48 w hw E s) t.c Zt (ac a) (qbT tok log) L s
    refine⟨.tuple [zT,.sl 0 [] .full,i64 5],s,?_,?_⟩
    ·have hlen:Int.ofNat log.length=2000:=by rw[h20];rfl
     unfold F18
     generalize s18_1 (qag CP n E) n=G at e⊢
     simp -implicitDefEqProofs only[qhJ,qb3,c47,zaa,qab]
     refine e.trans ?_
     unfold s18_0
     simp -implicitDefEqProofs only[hne,qng,hlen,bdZ,z5c,z5o,z5l,qaU,qad,qaf,qaw,decide_true,decide_false,qaa,cond_true,cond_false,zab,zaa,qbq]
    ·unfold qsO
     simp only[h20,if_true]
     rfl
   ·refine((hfd.and (h48.and (Ev.ge ((qcX a t).length+1)))).and (hdo.and (qlj a oa h1 rs hrs m (qdV o.2.2 o.2.1 t) (log++[(o.1,o.2.1)]) hst.1 (by have:=hst.2;omega) (by simp only[zaw,zar,zaB];omega) (by omega)))).mono fun n ⟨⟨c47,c48,hn⟩,c49,ih⟩ E s tok k hlg hk=>?_
    obtain⟨k,rfl⟩:∃k',k=k'+1:=⟨k-1,by omega⟩
    obtain⟨tok',s1,a1,a2,a3,a4⟩:=qny (qag CP n E) hlg (o.1,o.2.1) (by omega)
    obtain⟨v,s',e2,e3⟩:=ih E s1 tok' k a4.lg (by omega)
    refine⟨v,s',?_,?_⟩
    ·rw[qa6]
     generalize lp _ _ k=L at e2⊢
     obtain⟨L2,e⟩:=qmh (E:=E) (rs:=rs) hn (by omega) (fun w hw s=>c48 w hw E s) t.c Zt (ac a) (qbT tok log) L s
     have hlen:¬Int.ofNat log.length=2000:=by simp only[zaf];omega
     have hms:ms 1 [.int .u8 0,.int .i64 0] [(0,some 2,.c (rv (o.1,o.2.1)))]=some (.sl 1 (rwC (o.1,o.2.1)) .full):=rfl
     have ho:over t.c 0 (qdV o.2.2 o.2.1 t).c=some (qdV o.2.2 o.2.1 t).c:=rfl
     unfold F18
     generalize s18_1 (qag CP n E) n=G at e⊢
     simp -implicitDefEqProofs only[qhJ,qb3,c47,zaa,qab]
     refine e.trans ?_
     unfold s18_0
     simp -implicitDefEqProofs only[hne,qng,hlen,qbR hidx,hld,hms,a1,qhJ,qb3,c49,ho,qah,qad,qaf,qaw,decide_false,qaa,cond_false,zab,zaa,qab,qan,qax,qay,qbq]
     exact e2
    ·unfold qsO
     simp only[h20,if_false]
     exact e3
  ·have hle:qjN rs (qcX a t)≤(qcX a t).length:=List.findIdx_le_length
   have heq:qjN rs (qcX a t)=(qcX a t).length:=by omega
   rw[q1 heq]
   refine((hfd.and (h48.and (Ev.ge ((qcX a t).length+1)))).and (qsz t (by omega))).mono fun n ⟨⟨c47,c48,hn⟩,c15⟩ E s tok k hlg hk=>?_
   obtain⟨k,rfl⟩:∃k',k=k'+1:=⟨k-1,by omega⟩
   rw[qa6]
   generalize lp _ _ k=L
   obtain⟨L2,e⟩:=qmh (E:=E) (rs:=rs) hn (by omega) (fun w hw s=>c48 w hw E s) t.c Zt (ac a) (qbT tok log) L s
   refine⟨.tuple [t.v,qbT tok log,i64 0],s,?_,qsd t tok log 0⟩
   rw[heq] at e
   unfold F18
   generalize s18_1 (qag CP n E) n=G at e⊢
   simp -implicitDefEqProofs only[qhJ,qb3,c47,zaa,qab]
   refine e.trans ?_
   unfold s18_0
   simp -implicitDefEqProofs only[qb3,c15,qah,qav,qad,qaf,qaw,decide_true,qaa,cond_true,cond_false,zab,zaa,qab,qbq]
theorem qnC (a:Ar)(t:Tm)(rs:List Int)(hrs:rs.length<=1000000)(oa:a.Ok)(ok:t.Ok)(h1:a.ids.length<=100000)(hs:t.size<=100000):PC CP 18 [a.v,t.v,u8s rs] (qfj (qf7 a t rs)):=by
 unfold qf7
 by_cases hc:qbN a t=0
 ·rw[if_pos hc]
  refine PC.of2 (cf:=cf18) (np:=3) (args':=[a.v,t.v,u8s rs]) (by kernel_rfl) (by kernel_rfl) rfl (by simp only[zap,qak];rfl) (by simp only[zam,qai];rfl) (fun lo=>qjO lo _)
   (((qnv a t oa ok h1 hs).and ((qlj a oa h1 rs hrs 2001 t [] ⟨hc,ok⟩ hs rfl (by omega)).and (Ev.ge 2002))).mono fun n ⟨c46,hlp,hn⟩ E s=>?_)
  rw[hc] at c46
  obtain⟨v,s',e,he⟩:=hlp E s 0 n (fun h=>absurd rfl h) (by omega)
  refine⟨v,s',(s18_eq _ _ _ _ _ _).trans ?_,he⟩
  rw[<-s18_2_lp] at e
  unfold s18
  generalize s18_2 (qag CP n E) n=G at e⊢
  simp -implicitDefEqProofs only[qcQ,qhJ,qb3,c46,qah,qad,qa1,decide_true,zak,qaa,cond_false,zab,zaa,qab]
  exact e
 ·rw[if_neg hc]
  refine PC.of2 (cf:=cf18) (np:=3) (args':=[a.v,t.v,u8s rs]) (by kernel_rfl) (by kernel_rfl) rfl (by simp only[zap,qak];rfl) (by simp only[zam,qai];rfl) (fun lo=>qjO lo _)
   ((qnv a t oa ok h1 hs).mono fun n c46 E s=>⟨.tuple [zT,.sl 0 [] .full,i64 (qbN a t)],s,(s18_eq _ _ _ _ _ _).trans ?_,rfl⟩)
  unfold s18
  generalize s18_2 (qag CP n E) n=G
  simp -implicitDefEqProofs only[qcQ,qhJ,qb3,c46,hc,bdZ,z5c,z5o,z5l,qah,qad,qa1,decide_false,zal,qaa,cond_true,zab,zaa,qab]
theorem qnD (a:Ar)(t:Tm):qf7 a t rulL=qqU a t:=by unfold qf7 qqU;rw[qiJ]
theorem quE (a:Ar)(t:Tm)(oa:a.Ok)(ok:t.Ok)(h1:a.ids.length<=100000)(hs:t.size<=100000):PC CP 16 [a.v,t.v] (qfj (qqU a t)):=by
 have h18:=qnC a t rulL (by decide) oa ok h1 hs
 rw[qnD] at h18
 refine PC.of2 (cf:=cf16) (np:=2) (args':=[a.v,t.v]) (by kernel_rfl) (by kernel_rfl) rfl (by simp only[zap,qak];rfl) (by simp only[zam,qai];rfl) (fun lo=>qjO lo _)
  ((rules22_c.and h18).mono fun n ⟨c22,c18⟩ E s=>⟨qfj (qqU a t),s,(s16_eq _ _ _ _ _).trans ?_,?_⟩)
 ·unfold s16
  simp -implicitDefEqProofs only[qcQ,qhJ,qb3,c22,c18,qx8,qx9,qya,qah,qav,zaa,qab,qan]
 ·rw[qfj,Tm.v_eq];rfl
end Go.AI.Tryz
namespace Go.AI.Tryz
theorem has_u8s {n:Nat}{c:zP}(h:HasT Go.Proofs.Tryz.prog n 30 [c]):∃rs:List Int,c=.sl rs.length (qaQ u8C rs):=by
 obtain⟨m,ls,rfl,h1,_,he⟩:=h.inv_sl Go.Proofs.Tryz.underlying30
 obtain⟨rs,e1,e2,_⟩:=qhD (c:=u8C) (Q:=fun _=>True) ls fun l hl=>by
  obtain⟨k,e,_⟩:=(he l hl).inv_int Go.Proofs.Tryz.underlying5
  exact⟨k,e.symm,trivial⟩
 refine⟨rs,?_⟩
 rw[e1,e2]
 exact(List.cons.inj h1).1
theorem qqP {a:Ar}(h1:a.ids.length<=100000)(sm:Int->Bool):∀(m:Nat) (t:Tm) (log:List Rw),Right a t->t.size<=100000->log.length<=2000->(qhB a sm m t log).1.Ok/\(qhB a sm m t log).2.1.length<=2000
 |0,t,log,_,_,_=>⟨qxW,zaY _⟩
 |m+1,t,log,h,hs,hl=>by
  rw[qeD]
  cases ho:qcO sm 0 (qbi t (qaB a)) with
  |nil=>exact⟨h.ok,hl⟩
  |cons o r=>
   unfold qsO
   simp only
   split
   ·exact⟨qxW,zaY _⟩
   ·have:=qmb (a:=a) (t:=t) (o:=o) (sm:=sm) h h1 hs (by rw[ho];exact zau ..)
    exact qqP h1 sm m _ _ this.1 (by have:=this.2;omega) (by simp only[zaw,zar,zaB];omega)
theorem qnE {a:Ar}{t:Tm}(ok:t.Ok)(h1:a.ids.length<=100000)(hs:t.size<=100000)(rs:List Int):(qf7 a t rs).1.Ok/\(qf7 a t rs).2.1.length<=2000:=by
 unfold qf7
 split
 ·rename_i hc
  exact qqP h1 _ 2001 t [] ⟨hc,ok⟩ hs (zaY _)
 ·exact⟨qxW,zaY _⟩
theorem qxX {e:Env}(n:Nat)(s:ASt){a:Ar}{t:Tm}{rs:List Int}(hl:rs.length<=100000)(c14:∀s,cl e 14 [a.v] s=some (a.v,s))(c15:∀s,cl e 15 [t.v] s=some (t.v,s)){r q:Tm×List Rw×Int}
  (c13:∀s,cl e 13 [a.v,t.v] s=some (qfj r,s))(c16:∀s,cl e 16 [a.v,t.v] s=some (qfj r,s))(c17:∀s',cl e 17 [a.v,t.v,.sl rs.length (qaQ u8C rs) (tkO s rs.length)] s'=some (qfj q,s'))(c18:∀s,cl e 18 [a.v,t.v,u8s rs] s=some (qfj q,s))
  (c19:∀s,cl e 19 [r.1.v,r.1.v] s=some (bl true,s))(c20:∀s,cl e 20 [qiE r.2.1,qiE r.2.1] s=some (bl true,s))(d19:∀s,cl e 19 [q.1.v,q.1.v] s=some (bl true,s))(d20:∀s,cl e 20 [qiE q.2.1,qiE q.2.1] s=some (bl true,s))(h12:∀s,cl e 12 [] s=some (bl true,s)):
  s3_1 e n (ac a) t.c (u8s rs) (bl false) s=some (bl true,stO s rs.length 1):=by
 have hap:=qxP e (sz:=1) (b:=1) s (qd4 (c:=u8C) (sz:=1) (fun _=>rfl) rs) (by omega)
 obtain⟨u,L,er⟩:=r
 obtain⟨v,M,fr⟩:=q
 unfold s3_1 s3_0
 simp -implicitDefEqProofs only[qhJ,qb3,c14,c15,c13,c16,hap,c17,c18,c19,c20,d19,d20,h12,qx8,qx9,qya,qah,qav,qad,qaf,decide_true,qaa,cond_true,cond_false,qaj,zab,zaa,qab,qan]
theorem alls_ev (a:Ar)(t:Tm)(rs:List Int)(oa:a.Ok)(ok:t.Ok):Ev fun n=>∀e,Lw n e->∃s',s3 e n a.v t.v (u8s rs) s00=some (bl true,s'):=by
 have hth:=qvu a t oa ok
 have aw:∀(n:Nat) (e:Env),Lw n e->s3_1 e n (ac a) t.c (u8s rs) (bl true) s00=some (bl true,s00):=fun n e he=>by
  have h12:=he.a
  unfold s3_1
  simp -implicitDefEqProofs only[h12,qaU,qaa,cond_true,qaj,zaa,qab]
 cases hb:qn4 a t with
 |false=>
  rw[hb] at hth
  refine hth.mono fun n h e he=>⟨s00,?_⟩
  have h:=he.c (by decide) h
  have aw:=aw n e he
  unfold s3
  generalize s3_1 e n=G at aw⊢
  simp -implicitDefEqProofs only[qcQ,qhJ,qb3,h,qah,qad,qaG,zal,qaa,cond_true,qaj,zab,zaa,qab,qam,qbq]
  exact aw
 |true=>
  rw[hb] at hth
  by_cases hg:(40:Int)<Int.ofNat rs.length
  ·refine hth.mono fun n h e he=>⟨s00,?_⟩
   have h:=he.c (by decide) h
   have aw:=aw n e he
   unfold s3
   generalize s3_1 e n=G at aw⊢
   simp -implicitDefEqProofs only[qcQ,qhJ,qb3,h,hg,qah,qad,qaG,decide_true,zak,qaa,cond_false,qaj,zab,zaa,qab,qam,qbq]
   exact aw
  ·have hr40:rs.length≤40:=by simp only[zaf] at hg;omega
   obtain⟨h1,h2,h3⟩:=qol hb
   have hA:=qts a (by omega) (fun t ht=>by have:=h2 t ht;omega)
   have hT:=qsz t (by omega)
   have h13:=qt8 a t oa ok (by omega) (by omega)
   have h16:=quE a t oa ok (by omega) (by omega)
   have h17:=qr0 a t rs (.sl rs.length (qaQ u8C rs) (tkO s00 rs.length)) rfl rfl (by omega) oa ok (by omega) (by omega)
   have h18:=qnC a t rs (by omega) oa ok (by omega) (by omega)
   have o1:=qnE (a:=a) ok (by omega) (by omega) rulL
   rw[qnD] at o1
   have o2:=qnE (a:=a) ok (by omega) (by omega) rs
   refine((((hth.and (hA.and hT)).and (h13.and h16)).and ((h17.and h18).and ((qmZ (qqU a t).1 (qqU a t).1 o1.1).and (qk8 (qqU a t).2.1 (qqU a t).2.1 (by have:=o1.2;omega) (by have:=o1.2;omega))))).and ((qmZ (qf7 a t rs).1 (qf7 a t rs).1 o2.1).and (qk8 (qf7 a t rs).2.1 (qf7 a t rs).2.1 (by have:=o2.2;omega) (by have:=o2.2;omega)))).mono
    fun n ⟨⟨⟨⟨c11,c14,c15⟩,c13,c16⟩,⟨c17,c18⟩,c19,c20⟩,d19,d20⟩ e he=>⟨stO s00 rs.length 1,?_⟩
   have c11:=he.c (by decide) c11
   have c19:=he.c (by decide) c19
   have c20:=he.c (by decide) c20
   have d19:=he.c (by decide) d19
   have d20:=he.c (by decide) d20
   rw[decide_eq_true rfl] at c19 c20 d19 d20
   have hgo:=qxX n s00 (by omega) (he.c (by decide) c14) (he.c (by decide) c15) (he.c (by decide) c13) (he.c (by decide) c16) (he.c (by decide) c17) (he.c (by decide) c18) c19 c20 d19 d20 he.a
   unfold s3
   generalize s3_1 e n=G at hgo⊢
   simp -implicitDefEqProofs only[qcQ,qhJ,qb3,c11,hg,qah,qad,qaG,decide_false,zak,qaa,cond_false,qaj,zab,zaa,qab,qam,qbq]
   exact hgo
end Go.AI.Tryz
