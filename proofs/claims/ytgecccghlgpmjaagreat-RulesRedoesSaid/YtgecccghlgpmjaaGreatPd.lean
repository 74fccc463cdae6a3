/- Part 4: what the functions of the program compute, function by function. No condition. -/
import Derived.Test.YtgecccghlgpmjaaGreatPc
set_option linter.unusedVariables false
set_option linter.unusedSimpArgs false
open Bool renaming and_eq_true→zag,false_eq_true→zai,not_true→zak,not_false→zal,and_self→zat,false_and→zau,true_and→zax,and_false→zaS,or_eq_false_iff→zaU,not_eq_true'→za0,or_eq_true→za4,false_or→za7,and_true→za8,true_or→zbk
open Int renaming ofNat_eq_natCast→zaf,reduceEq→zaj
open List renaming getElem?_eq_getElem→zah,map_cons→zam,getElem?_eq_some_iff→zao,all_cons→zap,length_cons→zar,getElem?_cons_zero→zas,mem_cons_self→zav,mem_cons_of_mem→zaw,length_append→zay,drop_eq_getElem_cons→zaz,getElem?_append_right→zaA,length_nil→zaC,mem_cons→zaE,not_mem_nil→zaH,all_eq_true→zaJ,getElem?_append_left→zaL,mem_of_getElem?→zaN,mem_append→zaO,cons_append→zaP,nil_append→zaQ,append_assoc→zaT,mem_singleton→zaV,length_eq_zero_iff→zaX,length_map→za1,getElem_mem→za5,mem_range→za9,getElem?_map→zbb,drop_length→zbc,append_nil→zbg,headD_cons→zbh,map_nil→zbm
open Nat renaming le_refl→zan,zero_add→zaF,lt_of_lt_of_le→zaY,lt_irrefl→zaZ,zero_le→za3,beq_refl→za6,le_trans→zbf,lt_or_ge→zbi,add_zero→zbj
open Option renaming bind_some→zaa,map_some→zab,getD_some→zaB,isSome_none→zaD,getD_none→zaG,isSome_some→zbe
open Option.some renaming injEq→zac
open Prod.mk renaming injEq→zaq
namespace Go.AI.Tryz
def qji (s:ASt)(n sz:Nat):ASt:={s with ntok:=s.ntok+1,toks:=(s.ntok,n,sz)::s.toks}
theorem qo8 (e:Env){sz b m:Nat}{cs:List zP}(s:ASt)(hl:cs.length=(m+1)*sz)(hb:(m+1)*b<=140737488355328):ap e sz b (.sl 0 [] .full) (.p (.sl (m+1) cs)) s=some (.sl (m+1) cs (.own s.ntok),qji s (m+1) sz):=by
 unfold ap stV
 have h1:Nat.ble ((0+(m+1))*b) 140737488355328=true:=ble_iff.2 (by rw[zaF];exact hb)
 have h2:Nat.beq cs.length ((m+1)*sz)=true:=qaD hl
 have h3:Nat.beq ([]:List zP).length (0*sz)=true:=qaD (by simp)
 simp only[qaJ,Arg.ev,qdy,zaa,h1,h2,h3,zat,cond_true]
 simp only[Nat.beq,cond_false,zaF,zaQ]
 rfl
theorem qo9 {e:Env}{n:Nat}{cf:CF}{args:List zA}{s s':ASt}{v:zA}(hd:args.length<2^cf.depth)(hb:qav cf e n args {s with heap:=[],toks:=[]}=some (v,s'))(hrf:qcF cf.body=true):ql4 e n cf args s=some v:=by
 obtain⟨r,h1,h2,h3⟩:=qja hrf hd hb
 unfold ql4
 rw[h1,zaa,h2]
theorem qpa {n f:Nat}{E:qaU}{cf:CF}{args args':List zA}{s s':ASt}{v:zA}(hcf:CP f=some cf)(hp:cf.pure=false)(hc:cf.clone=true)(hkA:cf.keepA=false)(hkR:cf.keepR=true)(hl:args.length=cf.np)(hd:cf.np<2^cf.depth)(ha:args.all qbG=true)
  (hargs:args.map qaF=args')(hn:qf1 args'=false)(hb:qav cf (qag CP n E) n args' s=some (v,s'))(hpl:ql2 v=true)(hrf:qcF cf.body=true:=by kernel_rfl):(qag CP (n+1) E).call f args s=some (v,s'):=by
 subst hargs
 rw[qdL]
 unfold qcm
 rw[hcf,zaa,qaD hl,ha,hc,hp,hn,hkA,hkR]
 simp only[zat,zaS,cond_true,cond_false]
 have hlen:(args.map qaF).length<2^cf.depth:=by simp[hl,hd]
 obtain⟨r,h1,h2,h3⟩:=qja hrf hlen hb
 rw[h1,zaa,h2,zaa,hpl,cond_true,h3]
theorem qmJ {n f:Nat}{E:qaU}{cf:CF}{args:List zA}{s sa sb:ASt}{a b:zA}(hcf:CP f=some cf)(hc:cf.clone=true)(hl:args.length=cf.np)(hd:1<2^cf.depth)(ha:args.all qbG=true)
  (hn:qf1 (args.map qaF)=true)(h1:qav cf (qag CP n (s.heap++E)) n [.p .nilSl] {s with heap:=[],toks:=[]}=some (a,sa))(h2:qav cf (qag CP n (s.heap++E)) n [.p .emSl] {s with heap:=[],toks:=[]}=some (b,sb))
  (i1:qeP a=true)(i2:qeP b=true)(hrf:qcF cf.body=true:=by kernel_rfl):(qag CP (n+1) E).call f args s=some (.sl 0 [] .full,s):=by
 rw[qdL]
 unfold qcm
 have e1:ql4 (qag CP n (s.heap++E)) n cf [.p .nilSl] s=some a:=qo9 (by exact hd) h1 hrf
 have e2:ql4 (qag CP n (s.heap++E)) n cf [.p .emSl] s=some b:=qo9 (by exact hd) h2 hrf
 rw[hcf,zaa,qaD hl,ha,hc,hn,e1,e2]
 simp only[zat,cond_true,zaa,i1,i2]
def qpb (s:ASt):List Se->zA×ASt
 |[]=>(.sl 0 [] .full,s)
 |a::r=>(.sl (r.length+1) (qaQ Se.cells (a::r)) (.own s.ntok),qji s (r.length+1) 4)
theorem qs4 (l:List Se)(hl:l.length<=1000000):Ev fun n=>∀E s,cl (qag CP n E) 165 [.p (.sl l.length (qaQ Se.cells l))] s=some (qpb s l):=by
 refine Ev.succ (Ev.of fun n E s=>?_)
 rw[qb0]
 have h3:ms 0 [] []=some (.sl 0 [] .full):=rfl
 cases l with
 |nil=>
  refine qmJ (cf:=cf165) (a:=.sl 0 [] .full) (b:=.sl 0 [] .full) (sa:={s with heap:=[],toks:=[]}) (sb:={s with heap:=[],toks:=[]}) (by kernel_rfl) (by kernel_rfl) (by kernel_rfl) (of_decide_eq_true (by kernel_rfl)) rfl rfl ((s165_eq _ _ _ _).trans ?_) ((s165_eq _ _ _ _).trans ?_) rfl rfl<;>rfl
 |cons a r=>
  refine qpa (cf:=cf165) (args':=[.p (.sl (r.length+1) (qaQ Se.cells (a::r)))]) (by kernel_rfl) (by kernel_rfl) (by kernel_rfl) (by kernel_rfl) (by kernel_rfl) (by kernel_rfl) (of_decide_eq_true (by kernel_rfl)) rfl rfl rfl ((s165_eq _ _ _ _).trans ?_) rfl
  unfold s165
  have hq:eqv 5 false (.p (.sl (r.length+1) (qaQ Se.cells (a::r)))) (.sl 0 [] .full)=some (bl false):=rfl
  have hlen:(qaQ Se.cells (a::r)).length=(r.length+1)*4:=qdX (c:=Se.cells) (fun _=>rfl) (a::r)
  have hap:=qo8 (qag CP n E) (sz:=4) (b:=48) s hlen (by simp only[zar] at hl;omega)
  simp only[hq,zaa,qaa,cond_false,h3,hap,qab]
end Go.AI.Tryz
namespace Go.AI
def Sc.with (x:Sc)(y:Se):Sc:={x with ids:=x.ids++[y]}
theorem qhd {α:Type}(c:α->List zP)(l:List α)(a:α):qaQ c (l++[a])=qaQ c l++c a:=by
 rw[qe1]
 simp only[qaQ,zbg]
end Go.AI
namespace Go.AI.Tryz
theorem qsb (x:Sc)(y:Se)(yv:zA)(hya:qbG yv=true)(hye:qaF yv=y.v)(hl:x.ids.length<=1000000):QC 107 (fun l=>[x.v l,yv]) (fun l=>(x.with y).v l):=by
 refine QC.of (cf:=cf107) (np:=2) (args':=fun l=>[x.v l,y.v]) (r:=fun l=>(x.with y).v l) (by kernel_rfl) (by kernel_rfl) (fun _=>rfl) (fun _=>by simp only[zap,hya];rfl) (fun _=>by simp only[zam,hye];rfl) (fun _=>rfl) (fun _=>rfl)
  ((qs4 x.ids hl).mono fun n h E s l hm=>?_)
 have h':=h E s
 rw[s107_eq]
 unfold s107
 have hyc:zA.cells (some 4) y.v=some (y.cells.map .p):=rfl
 have hyl:ldL (y.cells.map .p) 0 (some 4)=some y.v:=rfl
 have hms:ms 1 [.sl 0 [],.bool false,.int .i64 0,.bool false] [(0,some 4,.c y.v)]=some (.sl 1 y.cells .full):=rfl
 unfold Sc.v at⊢
 simp only[qaT,zaa,qbR,h',hyc,hyl,hms]
 have hx:∀cs:List zP,∀tk,zA.cells none (.sl (x.ids.length+1) cs tk)=some [.sl (x.ids.length+1) cs tk]:=fun _ _=>rfl
 have hlen:(x.with y).ids.length=x.ids.length+1:=by simp only[Sc.with,zay,zar,zaC]
 have hrow:qaQ Se.cells (x.with y).ids=qaQ Se.cells x.ids++y.cells:=qhd _ _ _
 rw[hlen,hrow]
 clear hx hlen hrow h'
 cases hi:x.ids with
 |nil=>
  have hap:=qg9 (qag CP n E) (sz:=4) (b:=48) (new:=y.cells) (y:=.sl 1 y.cells .full) s rfl rfl (by omega)
  simp only[qpb,qab,zaC,hap,qje,zaa,qgp,qbA,qaT,qc3]
  exact⟨_,_,rfl,rfl,rfl,rfl⟩
 |cons a r=>
  rw[hi] at hl
  simp only[zar] at hl
  have hap:=qo4 (qag CP n E) (sz:=4) (b:=48) (n:=r.length+1) (t:=s.ntok) (cs:=qaQ Se.cells (a::r)) (new:=y.cells) (y:=.sl 1 y.cells .full) (qji s (r.length+1) 4) rfl rfl (by omega) s.toks
  have e1:{qji s (r.length+1) 4 with toks:=(s.ntok,r.length+1,4)::s.toks}=qji s (r.length+1) 4:=rfl
  rw[e1] at hap
  simp only[qpb,qab,zar,hap,qje,zaa,qgp,qbA,qaT,qc3]
  exact⟨_,_,rfl,rfl,rfl,rfl⟩
end Go.AI.Tryz
namespace Go.AI
structure Form where
 n:Bool
 m:Bool
 i:Bool
 k:Int
def Form.cell (f:Form):zP:=qdY f.n f.m f.i f.k
def formL:List (Int×Form):=
 [(1,⟨true,true,false,0⟩),(2,⟨false,false,true,-1⟩),(3,⟨false,false,true,0⟩),(4,⟨false,false,true,1⟩),(5,⟨true,true,false,2⟩),(6,⟨true,false,false,1⟩),
  (7,⟨false,false,false,2⟩),(8,⟨false,false,false,3⟩),(9,⟨false,false,false,2⟩),(10,⟨true,true,false,1⟩),(11,⟨false,false,false,2⟩),(12,⟨true,false,false,0⟩),
  (13,⟨false,false,false,2⟩),(14,⟨false,false,false,0⟩),(15,⟨false,false,true,0⟩),(16,⟨false,false,true,0⟩),(17,⟨false,false,false,2⟩),(18,⟨true,false,true,1⟩)]
def qcq:List (Int×Form)->Int->Option Form
 |[],_=>none
 |(k,f)::r,i=>if i=k then some f else qcq r i
theorem qlF:qbs=formL.map fun x=>(.int .u8 x.1,x.2.cell):=rfl
theorem qkF (i:Int):∀l:List (Int×Form),qdz (l.map fun x=>(.int .u8 x.1,x.2.cell)) (.int .u8 i)=some ((qcq l i).map Form.cell)
 |[]=>rfl
 |(k,f)::r=>by
  have:qsv (.int .u8 i) (.int .u8 k)=some (ieq i k):=rfl
  simp only[zam,qdz,this,zaa,qcq,qcC]
  by_cases h:i=k
  ·simp only[h,decide_true,cond_true,if_true,zab]
  ·simp only[h,decide_false,cond_false,if_false]
   exact qkF i r
def qbq (t:Tm):Bool:=match qcq formL t.k with
 |none=>false
 |some f=>(f.n||decide (t.n=0))&&(f.m||decide (t.m=0))&&(f.i||decide (t.i=0))&&(decide (f.k<0)||decide (f.k=Int.ofNat t.ks.length))
theorem qra {e:Env}{s:ASt}{l:Nat}{z:zA}{k:Int}(h:qcO e.E s l=some qbs):lk e 1 z true (.map l) (u8 k) s=some (match qcq formL k with|some f=> .tuple [.agg [bl f.n,bl f.m,bl f.i,i64 f.k],bl true]|none=> .tuple [z,bl false],s):=by
 unfold lk stV
 simp only[qaJ,Arg.ev,h,zaa,qdG,cond_true]
 rw[qlF,qkF]
 cases qcq formL k with
 |none=>rfl
 |some f=>rfl
end Go.AI
namespace Go.AI.Tryz
theorem qcI (x:Sc)(t:Tm):QC 105 (fun l=>[x.v l,t.v]) (fun l=>bl (qbq t)):=by
 refine QC.of (cf:=cf105) (np:=2) (args':=fun l=>[x.v l,t.v]) (r:=fun l=>bl (qbq t)) (by kernel_rfl) (by kernel_rfl) (fun _=>rfl) (fun _=>by simp only[zap,qal];rfl) (fun _=>by simp only[zam,qai];rfl) (fun _=>rfl) (fun _=>rfl)
  (Ev.of fun n E s l hm=>⟨bl (qbq t),s,(s105_eq _ _ _ _ _).trans ?_,rfl,rfl,rfl⟩)
 have hm':qcO (qag CP n E).E s l=some qbs:=by rw[qa7];exact hm
 unfold s105 s105_0
 unfold Sc.v
 simp only[Tm.v_eq,qaT,qaZ,qjd,qbI,zaa,qra hm',qab]
 have g0:∀a b:zA,qe9 [a,b] 0=some a:=fun _ _=>rfl
 have g1:∀a b:zA,qe9 [a,b] 1=some b:=fun _ _=>rfl
 unfold qbq
 cases qcq formL t.k with
 |none=>simp only[qan,g0,g1,zaa,qaT,qc3,qaj,qaa,cond_false]
 |some f=>
  obtain⟨fn,fm,fi,fk⟩:=f
  simp only[qan,g0,g1,zaa,qaT,qc3,qaj,qaa,cond_true,qbR,qlz,qg6,qjd,qcQ,qc4,qej,qbD,qbo,qad,qap,qaf,zab]
  generalize decide (fk=Int.ofNat t.ks.length)=b4
  generalize decide (fk<0)=b5
  generalize decide (t.n=0)=b1
  generalize decide (t.m=0)=b2
  generalize decide (t.i=0)=b3
  cases fn<;>cases fm<;>cases fi<;>cases b1<;>cases b2<;>cases b3<;>cases b5<;>rfl
end Go.AI.Tryz
namespace Go.AI
theorem qaw (a b:zA):qe9 [a,b] 0=some a:=rfl
theorem qax (a b:zA):qe9 [a,b] 1=some b:=rfl
abbrev SzC (x:Sc)(t:Tm)(r:Int×Bool):Prop:=QC 163 (fun l=>[x.v l,t.v]) (fun _=> .tuple [i64 r.1,bl r.2])
abbrev IsC (x:Sc)(t:Tm)(n:Int)(b:Bool):Prop:=QC 104 (fun l=>[x.v l,t.v,i64 n]) (fun _=>bl b)
end Go.AI
namespace Go.AI.Tryz
theorem qhQ {x:Sc}{t:Tm}{r:Int×Bool}(n:Int)(h:SzC x t r):IsC x t n (r.2&&decide (r.1=n)):=by
 refine QC.of (cf:=cf104) (np:=3) (args':=fun l=>[x.v l,t.v,i64 n]) (r:=fun l=>bl (r.2&&decide (r.1=n))) (by kernel_rfl) (by kernel_rfl) (fun _=>rfl) (fun _=>by simp only[zap,qal];rfl) (fun _=>by simp only[zam,qai];rfl) (fun _=>rfl) (fun _=>rfl)
  (h.mono fun n' h E s l hm=>?_)
 obtain⟨s',h',hh,hn⟩:=h E s l hm
 refine⟨bl (r.2&&decide (r.1=n)),s',(s104_eq _ _ _ _ _ _).trans ?_,rfl,hh,hn⟩
 unfold s104 s104_0
 simp only[Tm.v_eq,Sc.v] at h'⊢
 simp only[qaT,qaZ,qbA,qb4,zaa,h',qab,qan,qaw,qax,qaj,qaa,qad,qaf,zab]
 cases r.2<;>rfl
theorem qlG {x y:Sc}{t u:Tm}{r q:Int×Bool}(h:SzC y t r)(g:SzC x u q):QC 206 (fun l=>[x.v l,y.v l,t.v,u.v]) (fun _=> .tuple [i64 r.1,bl (r.2&&(q.2&&decide (q.1=r.1)))]):=by
 refine QC.of (cf:=cf206) (np:=4) (args':=fun l=>[x.v l,y.v l,t.v,u.v]) (r:=fun _=> .tuple [i64 r.1,bl (r.2&&(q.2&&decide (q.1=r.1)))]) (by kernel_rfl) (by kernel_rfl) (fun _=>rfl) (fun _=>by simp only[zap,qal];rfl) (fun _=>by simp only[zam,qai];rfl) (fun _=>rfl) (fun _=>rfl)
  ((h.and (qhQ r.1 g)).mono fun n' ⟨h,g⟩ E s l hm=>?_)
 obtain⟨s',h',hh,hn⟩:=h E s l hm
 obtain⟨s2,g',gh,gn⟩:=g E s' l (by rw[qaW hh];exact hm)
 suffices ∃s3,s206 (qag CP n' E) n' (x.v l) (y.v l) t.v u.v s=some (.tuple [i64 r.1,bl (r.2&&(q.2&&decide (q.1=r.1)))],s3)/\s3.heap=s.heap/\s3.next=s.next by
  obtain⟨s3,e,e1,e2⟩:=this
  exact⟨_,s3,(s206_eq _ _ _ _ _ _ _).trans e,rfl,e1,e2⟩
 unfold s206 s206_0
 simp only[Tm.v_eq,Sc.v] at h' g'⊢
 simp only[qaT,qaZ,qbA,qb4,zaa,h',qab,qan,qaw,qax,qaj,qaa]
 cases hr:r.2
 ·exact⟨s',rfl,hh,hn⟩
 ·simp only[cond_true,g',qab,zax]
  exact⟨s2,rfl,gh.trans hh,gn.trans hn⟩
end Go.AI.Tryz
namespace Go.AI
def qbu (f:Tm->Bs->Bool):List Tm->List Bs->Bool
 |[],[]=>true
 |t::r,b::q=>f t b&&qbu f r q
 |_,_=>false
theorem qfM (f:Tm->Bs->Bool):∀(ks:List Tm) (ps:List Bs),ks.length≠ps.length->qbu f ks ps=false
 |[],[],h=>absurd rfl h
 |[],_::_,_=>rfl
 |_::_,[],_=>rfl
 |t::r,b::q,h=>by
  simp only[qbu,qfM f r q (by simp only[zar] at h;omega),zaS]
theorem Bs.v_eq (b:Bs):b.v=.agg [bl b.cell,i64 b.n]:=rfl
theorem qpc (CP:Nat->Option CF){n:Nat}(hn:1<=n)(E:qaU)(f:Nat)(x a b:zA)(s:ASt):clv (qag CP n E) (.func f [x] []) [a,b] s=cl (qag CP n E) f [x,a,b] s:=by
 obtain⟨m,rfl⟩:∃m,n=m+1:=⟨n-1,by omega⟩
 rw[qg1,qb0]
 rfl
end Go.AI
namespace Go.AI.Tryz
theorem qwU (x:Sc)(ks:List Tm)(ps:List Bs)(f:Tm->Bs->Bool)(h1:ks.length<=maxLen)(hf:∀p∈ks.zip ps,QC 59 (fun l=>[x.v l,p.1.v,p.2.v]) (fun _=>bl (f p.1 p.2))):
  QC 205 (fun l=>[.p (.sl ks.length (Tm.cellsL ks)),.p (.sl ps.length (qaQ Bs.cells ps)),.func 59 [x.v l] []]) (fun _=>bl (qbu f ks ps)):=by
 have hev:Ev fun n=>∀p∈ks.zip ps,∀E s l,qcO E s l=some qbs->∃s',cl (qag CP n E) 59 [x.v l,p.1.v,p.2.v] s=some (bl (f p.1 p.2),s')/\s'.heap=s.heap/\s'.next=s.next:=Ev.all _ hf
 rw[qbK] at h1
 refine QC.of (cf:=cf205) (np:=3) (args':=fun l=>[.p (.sl ks.length (Tm.cellsL ks)),.p (.sl ps.length (qaQ Bs.cells ps)),.func 59 [x.v l] []]) (r:=fun _=>bl (qbu f ks ps)) (by kernel_rfl) (by kernel_rfl) (fun _=>rfl) (fun _=>rfl) (fun _=>rfl) (fun _=>rfl) (fun _=>rfl)
  ((hev.and (Ev.ge (ks.length+1))).mono fun n ⟨hn,hm⟩ E s l hmap=>?_)
 suffices ∃s3,s205 (qag CP n E) n (.p (.sl ks.length (Tm.cellsL ks))) (.p (.sl ps.length (qaQ Bs.cells ps))) (.func 59 [x.v l] []) s=some (bl (qbu f ks ps),s3)/\s3.heap=s.heap/\s3.next=s.next by
  obtain⟨s3,e,e1,e2⟩:=this
  exact⟨_,s3,(s205_eq _ _ _ _ _ _).trans e,rfl,e1,e2⟩
 unfold s205
 simp only[qbo,zaa,qad,qa6,zab,qaa]
 by_cases hl:ks.length=ps.length
 ·have hl':Int.ofNat ks.length=Int.ofNat ps.length:=by rw[hl]
  simp only[hl',decide_true,zak,cond_false]
  rw[<-hl]
  unfold s205_0
  generalize hF:(fun(h14:zA->Nat->Nat->List zA->List zA->ASt->Res) (x8:zA) (g9 g10:Nat) (c11 c12:List zA) (s13:ASt)=>_)=F
  have key:∀k (j g1 g2:Nat) (c1 c2:List zA) (s:ASt),j<=ks.length->ks.length-j<k->qcO E s l=some qbs->∃s3,lp (fun _ _ _ _ _ _=>none) F k (i64 (.ofNat j)) g1 g2 c1 c2 s=some (bl (qbu f (ks.drop j) (ps.drop j)),s3)/\s3.heap=s.heap/\s3.next=s.next:=by
   intro k
   induction k with
   |zero=>intro j _ _ _ _ _ _ h;omega
   |succ k ih=>
    intro j g1 g2 c1 c2 s hj hk hs
    rw[qa5]
    generalize lp _ _ k=L at ih⊢
    subst hF
    rcases zbi j ks.length with h|h
    ·have h':j<ps.length:=by omega
     have hkj:ks[j]? =some ks[j]:=zah h
     have hpj:ps[j]? =some ps[j]:=zah h'
     have hld:=qdr (c:=Bs.cells) (sz:=2) (fun _=>rfl) (qag CP n E) s hpj
     have hld':ldH (qag CP n E) s (.elem (qaQ Bs.cells ps) (j*2)) (some 2)=some (.agg [bl ps[j].cell,i64 ps[j].n]):=hld
     have hz:(ks[j],ps[j])∈ks.zip ps:=by
      have:j<(ks.zip ps).length:=by rw[List.length_zip];omega
      have e:(ks.zip ps)[j]=(ks[j],ps[j]):=List.getElem_zip ..
      rw[<-e]
      exact za5 this
     obtain⟨s',hc,hh,hx⟩:=hn _ hz E s l hs
     have hia:iaV 2 (.p (.sl ks.length (qaQ Bs.cells ps))) (i64 (.ofNat j))=some (qaQ Bs.cells ps,j*2):=by
      rw[hl]
      exact qbV h'
     rw[zaz h,zaz h',qbu]
     rw[Bs.v_eq,Tm.v_eq ks[j]] at hc
     simp only[qad,qap,zab,zaa,of_lt.2 h,decide_true,qaa,cond_true,Tm.ia_kid h,qab,Tm.ld_kid _ _ hkj,Tm.v_eq ks[j],qaZ,qg7,za6,hia,hld',qfJ,qlx,qb4,qr7,qpc CP (show 1<=n by omega),hc,qam]
     cases f ks[j] ps[j]
     ·exact⟨s',rfl,hh,hx⟩
     ·simp only[zak,cond_false,qay,zab,zaa,qaO (show j<9223372036854775807 by omega),zax]
      obtain⟨s3,e,e1,e2⟩:=ih (j+1) (g1+1) (g2+1) _ _ s' (by omega) (by omega) (by rw[qaW hh];exact hs)
      exact⟨s3,e,e1.trans hh,e2.trans hx⟩
    ·have:j=ks.length:=by omega
     subst this
     have h3:¬(Int.ofNat ks.length<Int.ofNat ks.length):=fun h=>zaZ _ (of_lt.1 h)
     simp only[qad,qap,zab,zaa,h3,decide_false,qaa,cond_false]
     rw[zbc]
     rw[List.drop_of_length_le (by omega)]
     exact⟨s,rfl,rfl,rfl⟩
  exact key n 0 0 0 [] [] s (za3 _) (by omega) hmap
 ·have hl':¬(Int.ofNat ks.length=Int.ofNat ps.length):=by simp only[zaf];omega
  simp only[hl',decide_false,zal,cond_true]
  exact⟨s,by rw[qfM f ks ps hl],rfl,rfl⟩
end Go.AI.Tryz
namespace Go.AI.Tryz
theorem qpd (x:Sc)(ks:List Tm)(ps:List Bs)(f:Tm->Bs->Bool)(h1:ks.length<=maxLen)(hf:∀p∈ks.zip ps,QC 59 (fun l=>[x.v l,p.1.v,p.2.v]) (fun _=>bl (f p.1 p.2))):
  QC 195 (fun l=>[x.v l,.p (.sl ks.length (Tm.cellsL ks)),.p (.sl ps.length (qaQ Bs.cells ps))]) (fun _=>bl (qbu f ks ps)):=by
 refine QC.of (cf:=cf195) (np:=3) (args':=fun l=>[x.v l,.p (.sl ks.length (Tm.cellsL ks)),.p (.sl ps.length (qaQ Bs.cells ps))]) (r:=fun _=>bl (qbu f ks ps)) (by kernel_rfl) (by kernel_rfl) (fun _=>rfl) (fun _=>rfl) (fun _=>rfl) (fun _=>rfl) (fun _=>rfl)
  ((qwU x ks ps f h1 hf).mono fun n h E s l hmap=>?_)
 obtain⟨s',h',hh,hn⟩:=h E s l hmap
 refine⟨bl (qbu f ks ps),s',(s195_eq _ _ _ _ _ _).trans ?_,rfl,hh,hn⟩
 unfold s195
 unfold Sc.v at h'⊢
 have hmf:∀a b c d:zA,ldL [a,b,c,d] 0 (some 4)=some (.agg [a,b,c,d]):=fun _ _ _ _=>rfl
 have hm:mf 59 [.agg [.p (.sl x.ids.length (qaQ Se.cells x.ids)),i64 x.top,i64 x.size,.map l]] []=some (.func 59 [.agg [.p (.sl x.ids.length (qaQ Se.cells x.ids)),i64 x.top,i64 x.size,.map l]] []):=rfl
 simp only[qaT,zaa,hmf,hm,h',qab]
def qds (sz:Sc->Tm->Int×Bool)(x:Sc)(t:Tm)(b:Bs):Bool:=
 if b.cell then
  qbq t&&
   (if t.k=16 then(match x.get t.i with|some e=>e.ty.res.cell&&decide (e.ty.res.n=b.n)|none=>false)
    else if t.k=17 then
     (match t.ks with
      |u::w::_=>((sz x u).2&&decide ((sz x u).1=b.n))&&((sz (x.with ⟨⟨[],⟨false,b.n⟩⟩,true⟩) w).2&&decide ((sz (x.with ⟨⟨[],⟨false,b.n⟩⟩,true⟩) w).1=1))
      |_=>false)
    else false)
 else(sz x t).2&&decide ((sz x t).1=b.n)
theorem qmK {sz:Sc->Tm->Int×Bool}{x:Sc}{t:Tm}(b:Bs)(hl:x.ids.length<=1000000)(h0:SzC x t (sz x t))(hk:∀u w r,t.ks=u::w::r->SzC x u (sz x u)/\SzC (x.with ⟨⟨[],⟨false,b.n⟩⟩,true⟩) w (sz (x.with ⟨⟨[],⟨false,b.n⟩⟩,true⟩) w)):
  QC 59 (fun l=>[x.v l,t.v,b.v]) (fun _=>bl (qds sz x t b)):=by
 refine QC.of (cf:=cf59) (np:=3) (args':=fun l=>[x.v l,t.v,b.v]) (r:=fun _=>bl (qds sz x t b)) (by kernel_rfl) (by kernel_rfl) (fun _=>rfl) (fun _=>by simp only[zap,qal];rfl) (fun _=>by simp only[zam,qai];rfl) (fun _=>rfl) (fun _=>rfl) ?_
 have hu:∀u w r,t.ks=u::w::r->Ev fun n=>∀E s l,qcO E s l=some qbs->∃s',cl (qag CP n E) 104 [x.v l,u.v,i64 b.n] s=some (bl ((sz x u).2&&decide ((sz x u).1=b.n)),s')/\s'.heap=s.heap/\s'.next=s.next:=fun u w r e=>qhQ b.n (hk u w r e).1
 suffices hmain:Ev fun n=>∀E s l,qcO E s l=some qbs->∃s3,s59 (qag CP n E) n (x.v l) t.v b.v s=some (bl (qds sz x t b),s3)/\s3.heap=s.heap/\s3.next=s.next by
  refine hmain.mono fun n h E s l hm=>?_
  obtain⟨s3,e,e1,e2⟩:=h E s l hm
  exact⟨_,s3,(s59_eq _ _ _ _ _ _).trans e,rfl,e1,e2⟩
 cases hb:b.cell with
 |false=>
  refine(qhQ b.n h0).mono fun n h E s l hm=>?_
  obtain⟨s',h',hh,hn⟩:=h E s l hm
  refine⟨s',?_,hh,hn⟩
  unfold s59 qds
  simp only[Tm.v_eq,Sc.v,Bs.v_eq,hb] at h'⊢
  simp only[qaT,qaZ,qfJ,qoW,qjc,qbA,qb4,zaa,qam,qaa,zal,cond_true,h',qab]
  rfl
 |true=>
  let y:Se:=⟨⟨[],⟨false,b.n⟩⟩,true⟩
  have hEv:Ev fun n=>∀u w r,t.ks=u::w::r->(∀E s l,qcO E s l=some qbs->∃s',cl (qag CP n E) 104 [x.v l,u.v,i64 b.n] s=some (bl ((sz x u).2&&decide ((sz x u).1=b.n)),s')/\s'.heap=s.heap/\s'.next=s.next)/\
    (∀E s l,qcO E s l=some qbs->∃s',cl (qag CP n E) 104 [(x.with y).v l,w.v,i64 1] s=some (bl ((sz (x.with y) w).2&&decide ((sz (x.with y) w).1=1)),s')/\s'.heap=s.heap/\s'.next=s.next):=by
   match hks:t.ks with
   |[]=>exact Ev.of fun n u w r h=>nomatch h
   |[_]=>exact Ev.of fun n u w r h=>nomatch h
   |u::w::r=>
    refine((qhQ b.n (hk u w r hks).1).and (qhQ 1 (hk u w r hks).2)).mono fun n ⟨h1,h2⟩ u' w' r' h=>?_
    injection h with e1 e2
    injection e2 with e2 e3
    subst e1;subst e2
    exact⟨h1,h2⟩
  refine(((qcI x t).and (qmI x t.i hl)).and (hEv.and (qsb x y (.agg [.sl 0 [] .full,bl false,i64 b.n,bl true]) rfl rfl hl))).mono fun n ⟨⟨hf,hc⟩,⟨hk2,hw⟩⟩ E s l hm=>?_
  obtain⟨s1,f1,f2,f3⟩:=hf E s l hm
  have hm1:qcO E s1 l=some qbs:=by rw[qaW f2];exact hm
  unfold s59 qds
  simp only[Tm.v_eq,Sc.v,Bs.v_eq,hb] at f1⊢
  simp only[qaT,qaZ,qfJ,qoW,qjc,qbA,qb4,zaa,qam,qaa,zak,cond_false,f1,qab]
  cases hok:qbq t with
  |false=>exact⟨s1,rfl,f2,f3⟩
  |true=>
   simp only[zak,cond_false,qbI,zaa,qad,qaf,zab,qaa,if_true,zax]
   by_cases k16:t.k=16
   ·obtain⟨s2,c1,c2,c3⟩:=hc E s1 l hm1
    simp only[Sc.v] at c1
    simp only[k16,decide_true,cond_true,if_true,qej,zaa,c1,qab,qan,qaw,qax,qaj,s59_0]
    refine⟨s2,?_,c2.trans f2,c3.trans f3⟩
    cases x.get t.i with
    |none=>rfl
    |some e=>
     simp only[zaB,Option.any_some,qaa,qad,qaf,zab,zaa]
     cases e.ty.res.cell<;>rfl
   ·simp only[k16,decide_false,cond_false,if_false]
    by_cases k17:t.k=17
    ·have hlen:t.ks.length=2:=by
      unfold qbq at hok
      rw[k17] at hok
      have e:qcq formL 17=some ⟨false,false,false,2⟩:=rfl
      simp only[e,zag] at hok
      have:=hok.2
      simp only[za4,decide_eq_true_eq,zaf] at this
      omega
     obtain⟨u,w,hks⟩:∃u w,t.ks=[u,w]:=by
      match h:t.ks,hlen with
      |[u,w],_=>exact⟨u,w,rfl⟩
     obtain⟨g1,g2⟩:=hk2 u w [] hks
     obtain⟨s2,a1,a2,a3⟩:=g1 E s1 l hm1
     have hm2:qcO E s2 l=some qbs:=by rw[qaW a2];exact hm1
     obtain⟨s3,b1,b2,b3⟩:=hw E s2 l hm2
     have hm3:qcO E s3 l=some qbs:=by rw[qaW b2];exact hm2
     obtain⟨s4,d1,d2,d3⟩:=g2 E s3 l hm3
     have i0:iaV 5 (.p (.sl t.ks.length (Tm.cellsL t.ks))) (i64 0)=some (Tm.cellsL t.ks,0*5):=Tm.ia_kid (j:=0) (by omega)
     have i1:iaV 5 (.p (.sl t.ks.length (Tm.cellsL t.ks))) (i64 1)=some (Tm.cellsL t.ks,1*5):=Tm.ia_kid (j:=1) (by omega)
     have l0:∀s,ldH (qag CP n E) s (.elem (Tm.cellsL t.ks) (0*5)) (some 5)=some u.v:=fun s=>Tm.ld_kid _ _ (by rw[hks];rfl)
     have l1:∀s,ldH (qag CP n E) s (.elem (Tm.cellsL t.ks) (1*5)) (some 5)=some w.v:=fun s=>Tm.ld_kid _ _ (by rw[hks];rfl)
     have q1:bd [bl false,i64 0] [(1,none,.c (i64 b.n))]=some (.agg [bl false,i64 b.n]):=rfl
     have q2:bd [.sl 0 [] .full,bl false,i64 0] [(1,some 2,.c (.agg [bl false,i64 b.n]))]=some (.agg [.sl 0 [] .full,bl false,i64 b.n]):=rfl
     have q3:bd [.sl 0 [] .full,bl false,i64 0,bl false] [(0,some 3,.c (.agg [.sl 0 [] .full,bl false,i64 b.n])),(3,none,.c (bl true))]=some (.agg [.sl 0 [] .full,bl false,i64 b.n,bl true]):=rfl
     simp only[Sc.v] at a1 b1 d1
     simp only[k17,decide_true,cond_true,if_true,qaj,qbD,zaa,i0,qab,l0,a1,qaa]
     rw[hks]
     simp only
     cases(sz x u).2&&decide ((sz x u).1=b.n) with
     |false=>exact⟨s2,rfl,a2.trans f2,a3.trans f3⟩
     |true=>
      simp only[cond_true,q1,q2,q3,zaa,b1,qab]
      rw[<-hks]
      simp only[i1,l1,qab,zaa,d1,s59_1,zax]
      exact⟨s4,rfl,d2.trans (b2.trans (a2.trans f2)),d3.trans (b3.trans (a3.trans f3))⟩
    ·simp only[k17,decide_false,cond_false,if_false]
     exact⟨s1,rfl,f2,f3⟩
end Go.AI.Tryz
namespace Go.AI.Tryz
theorem Tm.ia0 {l:List Tm}(h:0<l.length):iaV 5 (.p (.sl l.length (Tm.cellsL l))) (i64 0)=some (Tm.cellsL l,0*5):=Tm.ia_kid (j:=0) h
theorem Tm.ia1 {l:List Tm}(h:1<l.length):iaV 5 (.p (.sl l.length (Tm.cellsL l))) (i64 1)=some (Tm.cellsL l,1*5):=Tm.ia_kid (j:=1) h
abbrev is2 (r:Int×Bool)(n:Int):Bool:=r.2&&decide (r.1=n)
def qcL (sz:Sc->Tm->Int×Bool)(x:Sc)(t:Tm):Int×Bool:=
 match t.ks with
 |[u]=>(t.n,(sz x u).2&&qbe t.n)
 |u::w::_=>
  if t.n=1\/t.n=2\/t.n=3 then(t.m,qbe t.m&&(is2 (sz x u) t.m&&is2 (sz x w) t.m))
  else if t.n=4\/t.n=5 then(2,qbe t.m&&(is2 (sz x u) t.m&&is2 (sz x w) t.m)) else(0,false)
 |[]=>(0,false)
theorem qrb {sz:Sc->Tm->Int×Bool}{x:Sc}{t u:Tm}(hks:t.ks=[u])(h6:t.k=6)(h:SzC x u (sz x u)):QC 196 (fun l=>[x.v l,t.v]) (fun _=> .tuple [i64 (qcL sz x t).1,bl (qcL sz x t).2]):=by
 refine QC.of (cf:=cf196) (np:=2) (args':=fun l=>[x.v l,t.v]) (r:=fun _=> .tuple [i64 (qcL sz x t).1,bl (qcL sz x t).2]) (by kernel_rfl) (by kernel_rfl) (fun _=>rfl) (fun _=>by simp only[zap,qal];rfl) (fun _=>by simp only[zam,qai];rfl) (fun _=>rfl) (fun _=>rfl)
  ((h.and (qgq t.n)).mono fun n ⟨h,hz⟩ E s l hm=>?_)
 obtain⟨s',h',hh,hn⟩:=h E s l hm
 refine⟨.tuple [i64 (qcL sz x t).1,bl (qcL sz x t).2],s',(s196_eq _ _ _ _ _).trans ?_,rfl,hh,hn⟩
 have hz':=hz E s'
 have hr:qcL sz x t=(t.n,(sz x u).2&&qbe t.n):=by unfold qcL;rw[hks]
 have l0:∀s,ldH (qag CP n E) s (.elem (Tm.cellsL t.ks) (0*5)) (some 5)=some u.v:=fun s=>Tm.ld_kid _ _ (by rw[hks];rfl)
 have i0:=Tm.ia0 (l:=t.ks) (by simp[hks])
 unfold s196
 rw[hr]
 simp only[Sc.v] at h'
 simp only[Tm.v_eq t,Sc.v,qaT,qaZ,qbA,qbI,qbD,qcQ,h6,qad,qaf,zab,zaa,decide_true,qaa,cond_true,i0,l0,qab,h',qan,qaw,qax,qaj,s196_0]
 cases(sz x u).2
 ·rfl
 ·simp only[cond_true,hz',qab,zax]
theorem qrc {sz:Sc->Tm->Int×Bool}{x:Sc}{t u w:Tm}(hks:t.ks=[u,w])(h5:t.k=5)(h:SzC x u (sz x u))(g:SzC x w (sz x w)):QC 196 (fun l=>[x.v l,t.v]) (fun _=> .tuple [i64 (qcL sz x t).1,bl (qcL sz x t).2]):=by
 refine QC.of (cf:=cf196) (np:=2) (args':=fun l=>[x.v l,t.v]) (r:=fun _=> .tuple [i64 (qcL sz x t).1,bl (qcL sz x t).2]) (by kernel_rfl) (by kernel_rfl) (fun _=>rfl) (fun _=>by simp only[zap,qal];rfl) (fun _=>by simp only[zam,qai];rfl) (fun _=>rfl) (fun _=>rfl)
  (((qhQ t.m h).and ((qhQ t.m g).and (qgq t.m))).mono fun n ⟨h,g,hz⟩ E s l hm=>?_)
 obtain⟨s1,a1,a2,a3⟩:=h E s l hm
 obtain⟨s2,b1,b2,b3⟩:=g E s1 l (by rw[qaW a2];exact hm)
 have hz':=hz E s
 have l0:∀s,ldH (qag CP n E) s (.elem (Tm.cellsL t.ks) (0*5)) (some 5)=some u.v:=fun s=>Tm.ld_kid _ _ (by rw[hks];rfl)
 have l1:∀s,ldH (qag CP n E) s (.elem (Tm.cellsL t.ks) (1*5)) (some 5)=some w.v:=fun s=>Tm.ld_kid _ _ (by rw[hks];rfl)
 have i0:=Tm.ia0 (l:=t.ks) (by simp[hks])
 have i1:=Tm.ia1 (l:=t.ks) (by simp[hks])
 suffices ∃s3,s196 (qag CP n E) n (x.v l) t.v s=some (.tuple [i64 (qcL sz x t).1,bl (qcL sz x t).2],s3)/\s3.heap=s.heap/\s3.next=s.next by
  obtain⟨s3,e,e1,e2⟩:=this
  exact⟨_,s3,(s196_eq _ _ _ _ _).trans e,rfl,e1,e2⟩
 let ok:Bool:=qbe t.m&&(is2 (sz x u) t.m&&is2 (sz x w) t.m)
 have hr:qcL sz x t=if t.n=1\/t.n=2\/t.n=3 then(t.m,ok) else if t.n=4\/t.n=5 then(2,ok) else(0,false):=by unfold qcL;rw[hks]
 have hfin:∀(c:Bool) (s3:ASt),c=ok->s196_4 (qag CP n E) n [u8 t.k,i64 t.n,i64 t.m,i64 t.i,.p (.sl t.ks.length (Tm.cellsL t.ks))] (bl c) s3=some (.tuple [i64 (qcL sz x t).1,bl (qcL sz x t).2],s3):=by
  intro c s3 hc
  rw[hr,<-hc]
  unfold s196_4 s196_3 s196_2 s196_1
  simp only[qcQ,qc4,qaj,qad,qaf,zab,zaa,qaa]
  by_cases e1:t.n=1
  ·simp only[e1,decide_true,cond_true,true_or,if_true]
  ·by_cases e2:t.n=2
   ·simp only[e2,show¬((2:Int)=1) by decide,decide_true,decide_false,cond_true,cond_false,true_or,or_true,if_true]
   ·by_cases e3:t.n=3
    ·simp only[e3,show¬((3:Int)=1) by decide,show¬((3:Int)=2) by decide,decide_true,decide_false,cond_true,cond_false,or_true,if_true]
    ·by_cases e4:t.n=4
     ·simp only[e4,show¬((4:Int)=1) by decide,show¬((4:Int)=2) by decide,show¬((4:Int)=3) by decide,decide_true,decide_false,cond_true,cond_false,true_or,or_self,if_true,if_false]
     ·by_cases e5:t.n=5
      ·simp only[e5,show¬((5:Int)=1) by decide,show¬((5:Int)=2) by decide,show¬((5:Int)=3) by decide,show¬((5:Int)=4) by decide,decide_true,decide_false,cond_true,cond_false,or_true,or_self,if_true,if_false]
      ·simp only[e1,e2,e3,e4,e5,decide_false,cond_false,or_self,if_false]
 have h65:decide (t.k=6)=false:=by rw[h5];rfl
 unfold s196
 simp only[Sc.v] at a1 b1
 simp only[Tm.v_eq t,Sc.v,qaT,qaZ,qbA,qbI,qbD,qc4,h65,qad,qaf,zab,zaa,qaa,cond_false,i0,l0,i1,l1,qab,qaj,hz']
 have f0:ok=false->∀s3,s196_4 (qag CP n E) n [u8 t.k,i64 t.n,i64 t.m,i64 t.i,.p (.sl t.ks.length (Tm.cellsL t.ks))] (bl false) s3=some (.tuple [i64 (qcL sz x t).1,bl (qcL sz x t).2],s3):=fun h s3=>hfin false s3 h.symm
 cases q1:qbe t.m with
 |false=>
  have hk0:ok=false:=by show(qbe t.m&&_)=false;rw[q1];rfl
  rw[cond_false,f0 hk0 s]
  exact⟨s,rfl,rfl,rfl⟩
 |true=>
  rw[cond_true,a1,qab,qaa]
  cases q2:((sz x u).2&&decide ((sz x u).1=t.m)) with
  |false=>
   have hk0:ok=false:=by show(qbe t.m&&(((sz x u).2&&decide ((sz x u).1=t.m))&&_))=false;rw[q1,q2];rfl
   rw[cond_false,f0 hk0 s1]
   exact⟨s1,rfl,a2,a3⟩
  |true=>
   have hk0:((sz x w).2&&decide ((sz x w).1=t.m))=ok:=by show _=(qbe t.m&&(((sz x u).2&&decide ((sz x u).1=t.m))&&((sz x w).2&&decide ((sz x w).1=t.m))));rw[q1,q2];rfl
   rw[cond_true,b1,qab,hfin _ s2 hk0]
   exact⟨s2,rfl,b2.trans a2,b3.trans a3⟩
end Go.AI.Tryz
namespace Go.AI.Tryz
def qbE (sz:Sc->Tm->Int×Bool)(x:Sc)(t:Tm):Int×Bool:=
 match t.ks with
 |[u]=>
  if t.k=10 then((sz (x.with ⟨⟨[],⟨true,t.n⟩⟩,false⟩) u).1,(sz (x.with ⟨⟨[],⟨true,t.n⟩⟩,false⟩) u).2&&(qbe t.n&&qbi t.m t.n))
  else if t.k=18 then((sz x u).1,(sz x u).2&&(((x.get t.i).any fun e=>e.ty.res.cell)&&(decide (x.top<t.i)&&qbi t.n ((x.get t.i).getD .none).ty.res.n)))
  else(0,false)
 |[u,w]=>
  if t.k=7 then((sz x w).1,(sz x w).2&&is2 (sz x u) 1)
  else if t.k=9 then(1,(sz x u).2&&is2 (sz x w) 1)
  else if t.k=11 then((sz {x with size:=x.size+1} u).1,(sz {x with size:=x.size+1} u).2&&is2 (sz x w) (sz {x with size:=x.size+1} u).1)
  else if t.k=13 then((sz x u).1,(sz x u).2&&is2 (sz x w) (sz x u).1)
  else(0,false)
 |[c,u,w]=>if t.k=8 then((sz x u).1,((sz x u).2&&is2 (sz x w) (sz x u).1)&&(sz x c).2) else(0,false)
 |_=>(0,false)
abbrev PtC (x:Sc)(t:Tm)(r:Int×Bool):Prop:=QC 197 (fun l=>[x.v l,t.v]) (fun _=> .tuple [i64 r.1,bl r.2])
theorem PtC.of {x:Sc}{t:Tm}{r:Int×Bool}(h:Ev fun n=>∀E s l,qcO E s l=some qbs->∃s',s197 (qag CP n E) n (x.v l) t.v s=some (.tuple [i64 r.1,bl r.2],s')/\s'.heap=s.heap/\s'.next=s.next):PtC x t r:=by
 refine QC.of (cf:=cf197) (np:=2) (args':=fun l=>[x.v l,t.v]) (r:=fun _=> .tuple [i64 r.1,bl r.2]) (by kernel_rfl) (by kernel_rfl) (fun _=>rfl) (fun _=>by simp only[zap,qal];rfl) (fun _=>by simp only[zam,qai];rfl) (fun _=>rfl) (fun _=>rfl) (h.mono fun n h E s l hm=>?_)
 obtain⟨s',e,e1,e2⟩:=h E s l hm
 exact⟨_,s',(s197_eq _ _ _ _ _).trans e,rfl,e1,e2⟩
theorem qb5 {n:Nat}{E:qaU}{l:List Tm}{u:Tm}(h:l[0]? =some u):iaV 5 (.p (.sl l.length (Tm.cellsL l))) (i64 0)=some (Tm.cellsL l,0*5)/\∀s,ldH (qag CP n E) s (.elem (Tm.cellsL l) (0*5)) (some 5)=some u.v:=
 ⟨Tm.ia_kid (j:=0) (zao.1 h).1,fun s=>Tm.ld_kid _ _ h⟩
theorem qdt {n:Nat}{E:qaU}{l:List Tm}{u:Tm}(h:l[1]? =some u):iaV 5 (.p (.sl l.length (Tm.cellsL l))) (i64 1)=some (Tm.cellsL l,1*5)/\∀s,ldH (qag CP n E) s (.elem (Tm.cellsL l) (1*5)) (some 5)=some u.v:=
 ⟨Tm.ia_kid (j:=1) (zao.1 h).1,fun s=>Tm.ld_kid _ _ h⟩
theorem qnD {n:Nat}{E:qaU}{l:List Tm}{u:Tm}(h:l[2]? =some u):iaV 5 (.p (.sl l.length (Tm.cellsL l))) (i64 2)=some (Tm.cellsL l,2*5)/\∀s,ldH (qag CP n E) s (.elem (Tm.cellsL l) (2*5)) (some 5)=some u.v:=
 ⟨Tm.ia_kid (j:=2) (zao.1 h).1,fun s=>Tm.ld_kid _ _ h⟩
section
variable {sz:Sc->Tm->Int×Bool} {x:Sc} {t u w c:Tm}
theorem qu1 (hks:t.ks=[u,w])(hk:t.k=7)(h:SzC x u (sz x u))(g:SzC x w (sz x w)):PtC x t (qbE sz x t):=by
 have hr:qbE sz x t=((sz x w).1,(sz x w).2&&is2 (sz x u) 1):=by unfold qbE;rw[hks];simp only[hk,if_true]
 rw[hr]
 refine PtC.of ((g.and (qhQ 1 h)).mono fun n ⟨g,h⟩ E s l hm=>?_)
 obtain⟨s1,a1,a2,a3⟩:=g E s l hm
 obtain⟨s2,b1,b2,b3⟩:=h E s1 l (by rw[qaW a2];exact hm)
 obtain⟨i0,l0⟩:=qb5 (n:=n) (E:=E) (l:=t.ks) (u:=u) (by rw[hks];rfl)
 obtain⟨i1,l1⟩:=qdt (n:=n) (E:=E) (l:=t.ks) (u:=w) (by rw[hks];rfl)
 simp only[Sc.v] at a1 b1
 unfold s197 s197_0
 simp only[Tm.v_eq t,Sc.v,hk,qaT,qaZ,qbA,qbI,qbD,qad,qaf,zab,zaa,decide_true,qaa,cond_true,i1,l1,i0,l0,qab,a1,qan,qaw,qax,qaj]
 cases(sz x w).2
 ·exact⟨s1,rfl,a2,a3⟩
 ·simp only[cond_true,b1,qab,zax]
  exact⟨s2,rfl,b2.trans a2,b3.trans a3⟩
theorem qu2 (hks:t.ks=[u,w])(hk:t.k=9)(h:SzC x u (sz x u))(g:SzC x w (sz x w)):PtC x t (qbE sz x t):=by
 have hr:qbE sz x t=(1,(sz x u).2&&is2 (sz x w) 1):=by unfold qbE;rw[hks];simp[hk]
 rw[hr]
 refine PtC.of ((h.and (qhQ 1 g)).mono fun n ⟨g,h⟩ E s l hm=>?_)
 obtain⟨s1,a1,a2,a3⟩:=g E s l hm
 obtain⟨s2,b1,b2,b3⟩:=h E s1 l (by rw[qaW a2];exact hm)
 obtain⟨i0,l0⟩:=qb5 (n:=n) (E:=E) (l:=t.ks) (u:=u) (by rw[hks];rfl)
 obtain⟨i1,l1⟩:=qdt (n:=n) (E:=E) (l:=t.ks) (u:=w) (by rw[hks];rfl)
 simp only[Sc.v] at a1 b1
 unfold s197 s197_2
 simp only[Tm.v_eq t,Sc.v,hk,qaT,qaZ,qbA,qbI,qbD,qad,qaf,zab,zaa,zaj,decide_true,decide_false,qaa,cond_true,cond_false,i1,l1,i0,l0,qab,a1,qan,qaw,qax,qaj]
 cases(sz x u).2
 ·exact⟨s1,rfl,a2,a3⟩
 ·simp only[cond_true,b1,qab,zax]
  exact⟨s2,rfl,b2.trans a2,b3.trans a3⟩
theorem qu3 (hks:t.ks=[c,u,w])(hk:t.k=8)(h:SzC x u (sz x u))(g:SzC x w (sz x w))(gc:SzC x c (sz x c)):PtC x t (qbE sz x t):=by
 have hr:qbE sz x t=((sz x u).1,((sz x u).2&&is2 (sz x w) (sz x u).1)&&(sz x c).2):=by unfold qbE;rw[hks];simp[hk]
 rw[hr]
 refine PtC.of (((qlG h g).and gc).mono fun n ⟨g,h⟩ E s l hm=>?_)
 obtain⟨s1,a1,a2,a3⟩:=g E s l hm
 obtain⟨s2,b1,b2,b3⟩:=h E s1 l (by rw[qaW a2];exact hm)
 obtain⟨i0,l0⟩:=qb5 (n:=n) (E:=E) (l:=t.ks) (u:=c) (by rw[hks];rfl)
 obtain⟨i1,l1⟩:=qdt (n:=n) (E:=E) (l:=t.ks) (u:=u) (by rw[hks];rfl)
 obtain⟨i2,l2⟩:=qnD (n:=n) (E:=E) (l:=t.ks) (u:=w) (by rw[hks];rfl)
 simp only[Sc.v] at a1 b1
 unfold s197 s197_1
 simp only[Tm.v_eq t,Sc.v,hk,qaT,qaZ,qbA,qbI,qbD,qad,qaf,zab,zaa,zaj,decide_true,decide_false,qaa,cond_true,cond_false,i1,l1,i0,l0,i2,l2,qab,a1,b1,qan,qaw,qax,qaj]
 refine⟨s2,?_,b2.trans a2,b3.trans a3⟩
 simp only[is2]
 cases decide ((sz x w).1=(sz x u).1)<;>cases(sz x w).2<;>cases(sz x u).2<;>rfl
theorem qs5 (hks:t.ks=[u,w])(hk:t.k=13)(h:SzC x u (sz x u))(g:SzC x w (sz x w)):PtC x t (qbE sz x t):=by
 have hr:qbE sz x t=((sz x u).1,(sz x u).2&&is2 (sz x w) (sz x u).1):=by unfold qbE;rw[hks];simp[hk]
 rw[hr]
 refine PtC.of ((qlG h g).mono fun n g E s l hm=>?_)
 obtain⟨s1,a1,a2,a3⟩:=g E s l hm
 obtain⟨i0,l0⟩:=qb5 (n:=n) (E:=E) (l:=t.ks) (u:=u) (by rw[hks];rfl)
 obtain⟨i1,l1⟩:=qdt (n:=n) (E:=E) (l:=t.ks) (u:=w) (by rw[hks];rfl)
 simp only[Sc.v] at a1
 unfold s197
 simp only[Tm.v_eq t,Sc.v,hk,qaT,qaZ,qbA,qbI,qbD,qad,qaf,zab,zaa,zaj,decide_true,decide_false,qaa,cond_true,cond_false,i1,l1,i0,l0,qab,a1,qan,qaw,qax,qaj]
 exact⟨s1,rfl,a2,a3⟩
theorem qs6 (hks:t.ks=[u,w])(hk:t.k=11)(hb:0<=x.size)(hb2:x.size<=1000000)(h:SzC {x with size:=x.size+1} u (sz {x with size:=x.size+1} u))(g:SzC x w (sz x w)):PtC x t (qbE sz x t):=by
 have hr:qbE sz x t=((sz {x with size:=x.size+1} u).1,(sz {x with size:=x.size+1} u).2&&is2 (sz x w) (sz {x with size:=x.size+1} u).1):=by unfold qbE;rw[hks];simp[hk]
 rw[hr]
 refine PtC.of ((qlG h g).mono fun n g E s l hm=>?_)
 obtain⟨s1,a1,a2,a3⟩:=g E s l hm
 obtain⟨i0,l0⟩:=qb5 (n:=n) (E:=E) (l:=t.ks) (u:=u) (by rw[hks];rfl)
 obtain⟨i1,l1⟩:=qdt (n:=n) (E:=E) (l:=t.ks) (u:=w) (by rw[hks];rfl)
 simp only[Sc.v] at a1
 have hw:qbb .i64 (x.size+1)=x.size+1:=qbt (by omega) (by omega)
 unfold s197
 simp only[Tm.v_eq t,Sc.v,hk,qaT,qaZ,qbA,qbI,qbD,qad,qaf,qay,hw,qg6,qq5,qc3,qbM,zab,zaa,zaj,decide_true,decide_false,qaa,cond_true,cond_false,i1,l1,i0,l0,qab,a1,qan,qaw,qax,qaj]
 exact⟨s1,rfl,a2,a3⟩
theorem qs7 (hks:t.ks=[u])(hk:t.k=10)(hl:x.ids.length<=1000000)(h:SzC (x.with ⟨⟨[],⟨true,t.n⟩⟩,false⟩) u (sz (x.with ⟨⟨[],⟨true,t.n⟩⟩,false⟩) u)):PtC x t (qbE sz x t):=by
 have hr:qbE sz x t=((sz (x.with ⟨⟨[],⟨true,t.n⟩⟩,false⟩) u).1,(sz (x.with ⟨⟨[],⟨true,t.n⟩⟩,false⟩) u).2&&(qbe t.n&&qbi t.m t.n)):=by unfold qbE;rw[hks];simp[hk]
 rw[hr]
 refine PtC.of ((h.and ((qsb x ⟨⟨[],⟨true,t.n⟩⟩,false⟩ (.agg [.sl 0 [] .full,bl true,i64 t.n,bl false]) rfl rfl hl).and ((qgq t.n).and (qfq t.m t.n)))).mono fun n ⟨h,hw,hz,hb⟩ E s l hm=>?_)
 obtain⟨s1,a1,a2,a3⟩:=hw E s l hm
 obtain⟨s2,b1,b2,b3⟩:=h E s1 l (by rw[qaW a2];exact hm)
 obtain⟨i0,l0⟩:=qb5 (n:=n) (E:=E) (l:=t.ks) (u:=u) (by rw[hks];rfl)
 have q1:bd [bl false,i64 0] [(0,none,.c (bl true)),(1,none,.c (i64 t.n))]=some (.agg [bl true,i64 t.n]):=rfl
 have q2:bd [.sl 0 [] .full,bl false,i64 0] [(1,some 2,.c (.agg [bl true,i64 t.n]))]=some (.agg [.sl 0 [] .full,bl true,i64 t.n]):=rfl
 have q3:bd [.sl 0 [] .full,bl false,i64 0,bl false] [(0,some 3,.c (.agg [.sl 0 [] .full,bl true,i64 t.n]))]=some (.agg [.sl 0 [] .full,bl true,i64 t.n,bl false]):=rfl
 dsimp only at a1 b1
 generalize sz (x.with ⟨⟨[],⟨true,t.n⟩⟩,false⟩) u=r at b1⊢
 generalize hy:(x.with ⟨⟨[],⟨true,t.n⟩⟩,false⟩).v l=y at a1 b1
 simp only[Sc.v] at a1
 unfold s197 s197_3
 simp only[Tm.v_eq t,Sc.v,hk,qaT,qaZ,qbA,qbI,qcQ,qc4,qbD,qad,qaf,zab,zaa,zaj,decide_true,decide_false,qaa,cond_true,cond_false,i0,l0,q1,q2,q3,qab,a1,b1,qan,qaw,qax,qaj]
 refine⟨s2,?_,b2.trans a2,b3.trans a3⟩
 cases r.2
 ·rfl
 ·simp only[cond_true,hz,qab,qaa,zax]
  cases qbe t.n
  ·rfl
  ·simp only[cond_true,hb,qab,zax]
theorem qs8 (hks:t.ks=[u])(hk:t.k=18)(hl:x.ids.length<=1000000)(h:SzC x u (sz x u)):PtC x t (qbE sz x t):=by
 have hr:qbE sz x t=((sz x u).1,(sz x u).2&&(((x.get t.i).any fun e=>e.ty.res.cell)&&(decide (x.top<t.i)&&qbi t.n ((x.get t.i).getD .none).ty.res.n))):=by unfold qbE;rw[hks];simp[hk]
 rw[hr]
 refine PtC.of ((h.and ((qmI x t.i hl).and (qfq t.n ((x.get t.i).getD .none).ty.res.n))).mono fun n ⟨h,hc,hb⟩ E s l hm=>?_)
 obtain⟨s1,a1,a2,a3⟩:=h E s l hm
 obtain⟨s2,b1,b2,b3⟩:=hc E s1 l (by rw[qaW a2];exact hm)
 obtain⟨i0,l0⟩:=qb5 (n:=n) (E:=E) (l:=t.ks) (u:=u) (by rw[hks];rfl)
 simp only[Sc.v] at a1 b1
 unfold s197 s197_4
 simp only[Tm.v_eq t,Sc.v,hk,qaT,qaZ,qbA,qlz,qbI,qcQ,qej,qbD,qad,qaf,qaC,zab,zaa,zaj,decide_true,decide_false,qaa,cond_true,cond_false,i0,l0,qab,a1,b1,qan,qaw,qax,qaj]
 refine⟨s2,?_,b2.trans a2,b3.trans a3⟩
 generalize hcell:(x.get t.i).any _=bc
 cases(sz x u).2
 ·rfl
 ·cases bc
  ·rfl
  ·cases decide (x.top<t.i)
   ·rfl
   ·simp only[cond_true,hb,qab,zax]
theorem qnE (hk:t.k≠7/\t.k≠8/\t.k≠9/\t.k≠10/\t.k≠11/\t.k≠13/\t.k≠18):PtC x t (qbE sz x t):=by
 obtain⟨k7,k8,k9,k10,k11,k13,k18⟩:=hk
 have hr:qbE sz x t=(0,false):=by unfold qbE;split<;>simp[k7,k8,k9,k10,k11,k13,k18]
 rw[hr]
 refine PtC.of (Ev.of fun n E s l hm=>⟨s,?_,rfl,rfl⟩)
 unfold s197
 simp only[Tm.v_eq t,Sc.v,qaT,qaZ,qbI,qad,qaf,zab,zaa,k7,k8,k9,k10,k11,k13,k18,decide_false,qaa,cond_false]
end
end Go.AI.Tryz
namespace Go.AI.Tryz
def qbl (sz:Sc->Tm->Int×Bool)(x:Sc)(t:Tm):Int×Bool:=
 if qbq t then
  if t.k=1 then(t.m,qbe t.m&&qbi t.n t.m)
  else if t.k=2 then(((x.get t.i).getD .none).ty.res.n,(x.get t.i).isSome&&(!((x.get t.i).getD .none).ty.res.cell&&(!((x.get t.i).getD .none).arg&&qbu (qds sz x) t.ks ((x.get t.i).getD .none).ty.ps)))
  else if t.k=3 then(((x.get t.i).getD .none).ty.res.n,(x.get t.i).any fun e=>e.ty.res.cell)
  else if t.k=4 then(1,((x.get t.i).any fun e=>e.ty.res.cell)&&(match t.ks with|u::_=>is2 (sz x u) ((x.get t.i).getD .none).ty.res.n|_=>false))
  else if t.k=15 then(((x.get t.i).getD .none).ty.res.n,(x.get t.i).isSome&&((x.get t.i).getD .none).arg)
  else if t.k=12 then(1,qbi t.n x.size)
  else if t.k=14 then(1,true)
  else if t.k=5\/t.k=6 then qcL sz x t
  else qbE sz x t
 else(0,false)
def _root_.Go.AI.Sc.B (x:Sc)(b:Nat):Prop:=x.ids.length+b<=1000000/\0<=x.size/\x.size+b<=1000000
theorem qa3 {t u:Tm}(h:u∈t.ks):u.size<t.size:=by
 have:=Tm.sizeL_mem h
 rw[Tm.size_ks t];omega
theorem SzC.of {x:Sc}{t:Tm}{r:Int×Bool}(h:Ev fun n=>∀E s l,qcO E s l=some qbs->∃s',s163 (qag CP n E) n (x.v l) t.v s=some (.tuple [i64 r.1,bl r.2],s')/\s'.heap=s.heap/\s'.next=s.next):SzC x t r:=by
 refine QC.of (cf:=cf163) (np:=2) (args':=fun l=>[x.v l,t.v]) (r:=fun _=> .tuple [i64 r.1,bl r.2]) (by kernel_rfl) (by kernel_rfl) (fun _=>rfl) (fun _=>by simp only[zap,qal];rfl) (fun _=>by simp only[zam,qai];rfl) (fun _=>rfl) (fun _=>rfl) (h.mono fun n h E s l hm=>?_)
 obtain⟨s',e,e1,e2⟩:=h E s l hm
 exact⟨_,s',(s163_eq _ _ _ _ _).trans e,rfl,e1,e2⟩
section
variable {sz:Sc->Tm->Int×Bool} {x:Sc} {t u w c:Tm}
theorem qs9 (hf:qbq t=false):SzC x t (qbl sz x t):=by
 have hr:qbl sz x t=(0,false):=by unfold qbl;simp only[hf,zai,if_false]
 rw[hr]
 refine SzC.of ((qcI x t).mono fun n h E s l hm=>?_)
 obtain⟨s1,a1,a2,a3⟩:=h E s l hm
 simp only[Sc.v,hf] at a1
 refine⟨s1,?_,a2,a3⟩
 unfold s163
 simp only[Tm.v_eq t] at a1⊢
 simp only[Sc.v,qaT,qaZ,qbA,qb4,zaa,a1,qab,qam,qaa,zal,cond_true]
theorem qwV (hf:qbq t=true)(hk:t.k=1):SzC x t (qbl sz x t):=by
 have hr:qbl sz x t=(t.m,qbe t.m&&qbi t.n t.m):=by unfold qbl;simp only[hf,if_true,hk]
 rw[hr]
 refine SzC.of (((qcI x t).and ((qgq t.m).and (qfq t.n t.m))).mono fun n ⟨h,hz,hb⟩ E s l hm=>?_)
 obtain⟨s1,a1,a2,a3⟩:=h E s l hm
 simp only[Sc.v,hf] at a1
 refine⟨s1,?_,a2,a3⟩
 unfold s163 s163_0
 simp only[Tm.v_eq t,hk] at a1⊢
 simp only[Sc.v,qaT,qaZ,qbA,qb4,qbI,qcQ,qc4,zaa,a1,qab,qam,qaa,zak,cond_false,qad,qaf,zab,zaj,decide_true,decide_false,cond_true,qaj,hz]
 cases qbe t.m
 ·rfl
 ·simp only[cond_true,hb,qab,zax]
theorem qu4 (hf:qbq t=true)(hk:t.k=14):SzC x t (qbl sz x t):=by
 have hr:qbl sz x t=(1,true):=by unfold qbl;simp[hf,hk]
 rw[hr]
 refine SzC.of ((qcI x t).mono fun n h E s l hm=>?_)
 obtain⟨s1,a1,a2,a3⟩:=h E s l hm
 simp only[Sc.v,hf] at a1
 refine⟨s1,?_,a2,a3⟩
 unfold s163
 simp only[Tm.v_eq t,hk] at a1⊢
 simp only[Sc.v,qaT,qaZ,qbA,qb4,qbI,qcQ,qc4,zaa,a1,qab,qam,qaa,zak,cond_false,qad,qaf,zab,zaj,decide_true,decide_false,cond_true,qaj]
theorem qu5 (hf:qbq t=true)(hk:t.k=12):SzC x t (qbl sz x t):=by
 have hr:qbl sz x t=(1,qbi t.n x.size):=by unfold qbl;simp[hf,hk]
 rw[hr]
 refine SzC.of (((qcI x t).and (qfq t.n x.size)).mono fun n ⟨h,hb⟩ E s l hm=>?_)
 obtain⟨s1,a1,a2,a3⟩:=h E s l hm
 simp only[Sc.v,hf] at a1
 refine⟨s1,?_,a2,a3⟩
 unfold s163
 simp only[Tm.v_eq t,hk] at a1⊢
 simp only[Sc.v,qaT,qaZ,qbA,qb4,qg6,qbI,qcQ,qc4,zaa,a1,qab,qam,qaa,zak,cond_false,qad,qaf,zab,zaj,decide_true,decide_false,cond_true,qaj,hb]
theorem qwW (hf:qbq t=true)(hk:t.k=3)(hl:x.ids.length<=1000000):SzC x t (qbl sz x t):=by
 have hr:qbl sz x t=(((x.get t.i).getD .none).ty.res.n,(x.get t.i).any fun e=>e.ty.res.cell):=by unfold qbl;simp[hf,hk]
 rw[hr]
 refine SzC.of (((qcI x t).and (qmI x t.i hl)).mono fun n ⟨h,hc⟩ E s l hm=>?_)
 obtain⟨s1,a1,a2,a3⟩:=h E s l hm
 obtain⟨s2,b1,b2,b3⟩:=hc E s1 l (by rw[qaW a2];exact hm)
 simp only[Sc.v,hf] at a1 b1
 refine⟨s2,?_,b2.trans a2,b3.trans a3⟩
 unfold s163
 simp only[Tm.v_eq t,hk] at a1⊢
 simp only[Sc.v,qaT,qaZ,qbA,qb4,qbI,qcQ,qc4,qej,zaa,a1,b1,qab,qam,qaa,zak,cond_false,qad,qaf,zab,zaj,decide_true,decide_false,cond_true,qaj,qan,qaw,qax]
theorem qwX (hf:qbq t=true)(hk:t.k=4)(hks:t.ks=[u])(hl:x.ids.length<=1000000)(hu:SzC x u (sz x u)):SzC x t (qbl sz x t):=by
 have hr:qbl sz x t=(1,((x.get t.i).any fun e=>e.ty.res.cell)&&is2 (sz x u) ((x.get t.i).getD .none).ty.res.n):=by unfold qbl;simp[hf,hk,hks]
 rw[hr]
 refine SzC.of (((qcI x t).and ((qmI x t.i hl).and (qhQ ((x.get t.i).getD .none).ty.res.n hu))).mono fun n ⟨h,hc,hi⟩ E s l hm=>?_)
 obtain⟨s1,a1,a2,a3⟩:=h E s l hm
 obtain⟨s2,b1,b2,b3⟩:=hc E s1 l (by rw[qaW a2];exact hm)
 obtain⟨s3,c1,c2,c3⟩:=hi E s2 l (by rw[qaW b2,qaW a2];exact hm)
 obtain⟨i0,l0⟩:=qb5 (n:=n) (E:=E) (l:=t.ks) (u:=u) (by rw[hks];rfl)
 simp only[Sc.v,hf] at a1 b1 c1
 unfold s163 s163_2
 simp only[Tm.v_eq t,hk] at a1⊢
 simp only[Sc.v,qaT,qaZ,qbA,qb4,qbI,qcQ,qc4,qej,qbD,zaa,a1,b1,qab,qam,qaa,zak,cond_false,qad,qaf,zab,zaj,decide_true,decide_false,cond_true,qaj,qan,qaw,qax,i0,l0,c1]
 cases(x.get t.i).any fun e=>e.ty.res.cell
 ·exact⟨s2,rfl,b2.trans a2,b3.trans a3⟩
 ·exact⟨s3,rfl,c2.trans (b2.trans a2),c3.trans (b3.trans a3)⟩
theorem Se.cells4 (y:Se):zA.cells (some 4) y.v=some [.p (.sl y.ty.ps.length (qaQ Bs.cells y.ty.ps)),bl y.ty.res.cell,i64 y.ty.res.n,bl y.arg]:=rfl
theorem qu6 (hf:qbq t=true)(hk:t.k=15)(hl:x.ids.length<=1000000):SzC x t (qbl sz x t):=by
 have hr:qbl sz x t=(((x.get t.i).getD .none).ty.res.n,(x.get t.i).isSome&&((x.get t.i).getD .none).arg):=by unfold qbl;simp[hf,hk]
 rw[hr]
 refine SzC.of (((qcI x t).and (qwT x t.i hl)).mono fun n ⟨h,hc⟩ E s l hm=>?_)
 obtain⟨s1,a1,a2,a3⟩:=h E s l hm
 obtain⟨s2,b1,b2,b3⟩:=hc E s1 l (by rw[qaW a2];exact hm)
 simp only[Sc.v,hf] at a1 b1
 refine⟨s2,?_,b2.trans a2,b3.trans a3⟩
 generalize hy:(x.get t.i).getD .none=y at b1
 generalize hq:(x.get t.i).isSome=q at b1
 unfold s163 s163_3
 simp only[Tm.v_eq t,hk] at a1⊢
 simp only[Sc.v,qaT,qaZ,qbA,qb4,qg6,qjd,qbI,qcQ,qc4,qej,zaa,a1,b1,qab,qam,qaa,zak,cond_false,qad,qaf,zab,zaj,decide_true,decide_false,cond_true,qaj,qan,qaw,qax,Se.cells4,qc3]
 cases q<;>rfl
theorem qwY (hf:qbq t=true)(hk:t.k=2)(hl:x.ids.length<=1000000)(hlen:t.ks.length<=maxLen)(hu:∀p∈t.ks.zip ((x.get t.i).getD .none).ty.ps,QC 59 (fun l=>[x.v l,p.1.v,p.2.v]) (fun _=>bl (qds sz x p.1 p.2))):SzC x t (qbl sz x t):=by
 have hr:qbl sz x t=(((x.get t.i).getD .none).ty.res.n,(x.get t.i).isSome&&(!((x.get t.i).getD .none).ty.res.cell&&(!((x.get t.i).getD .none).arg&&qbu (qds sz x) t.ks ((x.get t.i).getD .none).ty.ps))):=by unfold qbl;simp[hf,hk]
 rw[hr]
 refine SzC.of (((qcI x t).and ((qwT x t.i hl).and (qpd x t.ks ((x.get t.i).getD .none).ty.ps (qds sz x) hlen hu))).mono fun n ⟨h,hc,ha⟩ E s l hm=>?_)
 obtain⟨s1,a1,a2,a3⟩:=h E s l hm
 obtain⟨s2,b1,b2,b3⟩:=hc E s1 l (by rw[qaW a2];exact hm)
 obtain⟨s3,c1,c2,c3⟩:=ha E s2 l (by rw[qaW b2,qaW a2];exact hm)
 simp only[Sc.v,hf] at a1 b1 c1
 generalize hy:(x.get t.i).getD .none=y at b1 c1
 generalize hq:(x.get t.i).isSome=q at b1
 generalize qbu (qds sz x) t.ks y.ty.ps=ao at c1
 suffices ∃s',s163 (qag CP n E) n (x.v l) t.v s=some (.tuple [i64 y.ty.res.n,bl (q&&(!y.ty.res.cell&&(!y.arg&&ao)))],s')/\(s'=s2\/s'=s3) by
  obtain⟨s',e,he⟩:=this
  rcases he with rfl|rfl
  ·exact⟨_,e,b2.trans a2,b3.trans a3⟩
  ·exact⟨_,e,c2.trans (b2.trans a2),c3.trans (b3.trans a3)⟩
 unfold s163 s163_1
 simp only[Tm.v_eq t,hk] at a1⊢
 simp only[Sc.v,qaT,qaZ,qbA,qb4,qbR,qlz,qg6,qjd,qbI,qcQ,qc4,qej,qbD,zaa,a1,b1,qab,qam,qaa,zak,cond_false,qad,qaf,zab,zaj,decide_true,decide_false,cond_true,qaj,qan,qaw,qax,Se.cells4,qc3,c1]
 cases q
 ·exact⟨s2,rfl,.inl rfl⟩
 ·cases y.ty.res.cell
  ·cases y.arg
   ·exact⟨s3,rfl,.inr rfl⟩
   ·exact⟨s2,rfl,.inl rfl⟩
  ·exact⟨s2,rfl,.inl rfl⟩
theorem qmL (hf:qbq t=true)(hk:t.k=5\/t.k=6)(h:QC 196 (fun l=>[x.v l,t.v]) (fun _=> .tuple [i64 (qcL sz x t).1,bl (qcL sz x t).2])):SzC x t (qbl sz x t):=by
 have hr:qbl sz x t=qcL sz x t:=by unfold qbl;rcases hk with hk|hk<;>simp[hf,hk]
 rw[hr]
 generalize qcL sz x t=r at h⊢
 refine SzC.of (((qcI x t).and h).mono fun n ⟨h,hc⟩ E s l hm=>?_)
 obtain⟨s1,a1,a2,a3⟩:=h E s l hm
 obtain⟨s2,b1,b2,b3⟩:=hc E s1 l (by rw[qaW a2];exact hm)
 simp only[Sc.v,hf] at a1 b1
 refine⟨s2,?_,b2.trans a2,b3.trans a3⟩
 unfold s163 s163_4
 rcases hk with hk|hk<;>
 ·simp only[Tm.v_eq t,hk] at a1 b1⊢
  simp only[Sc.v,qaT,qaZ,qbA,qb4,qbI,zaa,a1,b1,qab,qam,qaa,zak,cond_false,qad,qaf,zab,zaj,decide_true,decide_false,cond_true,qaj,qan,qaw,qax]
theorem qpe (hf:qbq t=true)(hk:t.k≠1/\t.k≠2/\t.k≠3/\t.k≠4/\t.k≠15/\t.k≠12/\t.k≠14/\t.k≠5/\t.k≠6)(h:PtC x t (qbE sz x t)):SzC x t (qbl sz x t):=by
 obtain⟨k1,k2,k3,k4,k15,k12,k14,k5,k6⟩:=hk
 have hr:qbl sz x t=qbE sz x t:=by unfold qbl;simp[hf,k1,k2,k3,k4,k15,k12,k14,k5,k6]
 rw[hr]
 generalize qbE sz x t=r at h⊢
 refine SzC.of (((qcI x t).and h).mono fun n ⟨h,hc⟩ E s l hm=>?_)
 obtain⟨s1,a1,a2,a3⟩:=h E s l hm
 obtain⟨s2,b1,b2,b3⟩:=hc E s1 l (by rw[qaW a2];exact hm)
 simp only[Sc.v,hf] at a1 b1
 refine⟨s2,?_,b2.trans a2,b3.trans a3⟩
 unfold s163 s163_4
 simp only[Tm.v_eq t] at a1 b1⊢
 simp only[Sc.v,qaT,qaZ,qbA,qb4,qbI,zaa,a1,b1,qab,qam,qaa,zak,cond_false,qad,qaf,zab,k1,k2,k3,k4,k15,k12,k14,k5,k6,decide_false,qaj,qan,qaw,qax]
end
theorem qpf {t:Tm}(h:qbq t=true):∀f,qcq formL t.k=some f->f.k<0\/f.k=t.ks.length:=by
 intro f hf
 unfold qbq at h
 rw[hf] at h
 simp only[zag,za4,decide_eq_true_eq,zaf] at h
 exact h.2
theorem ks1 {t:Tm}(h:t.ks.length=1):∃u,t.ks=[u]:=by
 match hk:t.ks,h with
 |[u],_=>exact⟨u,rfl⟩
theorem ks2 {t:Tm}(h:t.ks.length=2):∃u w,t.ks=[u,w]:=by
 match hk:t.ks,h with
 |[u,w],_=>exact⟨u,w,rfl⟩
theorem ks3 {t:Tm}(h:t.ks.length=3):∃c u w,t.ks=[c,u,w]:=by
 match hk:t.ks,h with
 |[c,u,w],_=>exact⟨c,u,w,rfl⟩
theorem ksk {t:Tm}(h:qbq t=true){f:Form}(hf:qcq formL t.k=some f){m:Nat}(hm:f.k=m):t.ks.length=m:=by
 rcases qpf h f hf with h|h<;>omega
theorem qhe {x:Sc}{y:Se}{a b:Nat}(h:x.B b)(hab:a<b):(x.with y).B a:=by
 obtain⟨h1,h2,h3⟩:=h
 refine⟨?_,h2,?_⟩
 ·simp only[Sc.with,zay,zar,zaC];omega
 ·simp only[Sc.with];omega
theorem qmM {x:Sc}{a b:Nat}(h:x.B b)(hab:a<b):x.B a:=by
 obtain⟨h1,h2,h3⟩:=h
 exact⟨by omega,h2,by omega⟩
theorem qta {sz:Sc->Tm->Int×Bool}{x:Sc}{t:Tm}(hB:x.B t.size)(H:∀(u:Tm) (y:Sc),u.size<t.size->y.B u.size->SzC y u (sz y u)):SzC x t (qbl sz x t):=by
 have hl:x.ids.length<=1000000:=by have:=hB.1;omega
 have hlen:t.ks.length<=maxLen:=by
  have:=Tm.len_le_size t.ks
  have:=hB.1
  rw[Tm.size_ks t] at this
  rw[qbK];omega
 have hK:∀u∈t.ks,SzC x u (sz x u):=fun u hu=>H u x (qa3 hu) (qmM hB (qa3 hu))
 cases hf:qbq t with
 |false=>exact qs9 hf
 |true=>
  by_cases k1:t.k=1
  ·exact qwV hf k1
  by_cases k2:t.k=2
  ·refine qwY hf k2 hl hlen fun p hp=>?_
   have hm:p.1∈t.ks:=(List.of_mem_zip (a:=p.1) (b:=p.2) hp).1
   refine qmK p.2 hl (hK _ hm) fun u w r e=>?_
   have hu:u.size<p.1.size:=qa3 (by rw[e];exact zav ..)
   have hw:w.size<p.1.size:=qa3 (by rw[e];exact zaw _ (zav ..))
   have hp1:=qa3 hm
   exact⟨H u x (by omega) (qmM hB (by omega)),H w _ (by omega) (qhe hB (by omega))⟩
  by_cases k3:t.k=3
  ·exact qwW hf k3 hl
  by_cases k4:t.k=4
  ·obtain⟨u,hu⟩:=ks1 (ksk hf (f:=⟨false,false,true,1⟩) (m:=1) (by rw[k4];rfl) rfl)
   exact qwX hf k4 hu hl (hK u (by rw[hu];exact zav ..))
  by_cases k15:t.k=15
  ·exact qu6 hf k15 hl
  by_cases k12:t.k=12
  ·exact qu5 hf k12
  by_cases k14:t.k=14
  ·exact qu4 hf k14
  by_cases k5:t.k=5
  ·obtain⟨u,w,hu⟩:=ks2 (ksk hf (f:=⟨true,true,false,2⟩) (m:=2) (by rw[k5];rfl) rfl)
   exact qmL hf (.inl k5) (qrc hu k5 (hK u (by simp[hu])) (hK w (by simp[hu])))
  by_cases k6:t.k=6
  ·obtain⟨u,hu⟩:=ks1 (ksk hf (f:=⟨true,false,false,1⟩) (m:=1) (by rw[k6];rfl) rfl)
   exact qmL hf (.inr k6) (qrb hu k6 (hK u (by simp[hu])))
  refine qpe hf ⟨k1,k2,k3,k4,k15,k12,k14,k5,k6⟩ ?_
  by_cases k7:t.k=7
  ·obtain⟨u,w,hu⟩:=ks2 (ksk hf (f:=⟨false,false,false,2⟩) (m:=2) (by rw[k7];rfl) rfl)
   exact qu1 hu k7 (hK u (by simp[hu])) (hK w (by simp[hu]))
  by_cases k8:t.k=8
  ·obtain⟨c,u,w,hu⟩:=ks3 (ksk hf (f:=⟨false,false,false,3⟩) (m:=3) (by rw[k8];rfl) rfl)
   exact qu3 hu k8 (hK u (by simp[hu])) (hK w (by simp[hu])) (hK c (by simp[hu]))
  by_cases k9:t.k=9
  ·obtain⟨u,w,hu⟩:=ks2 (ksk hf (f:=⟨false,false,false,2⟩) (m:=2) (by rw[k9];rfl) rfl)
   exact qu2 hu k9 (hK u (by simp[hu])) (hK w (by simp[hu]))
  by_cases k10:t.k=10
  ·obtain⟨u,hu⟩:=ks1 (ksk hf (f:=⟨true,true,false,1⟩) (m:=1) (by rw[k10];rfl) rfl)
   have hlt:u.size<t.size:=qa3 (by simp[hu])
   exact qs7 hu k10 hl (H u _ hlt (qhe hB hlt))
  by_cases k11:t.k=11
  ·obtain⟨u,w,hu⟩:=ks2 (ksk hf (f:=⟨false,false,false,2⟩) (m:=2) (by rw[k11];rfl) rfl)
   have hlt:u.size<t.size:=qa3 (by simp[hu])
   obtain⟨b1,b2,b3⟩:=hB
   exact qs6 hu k11 b2 (by omega) (H u _ hlt ⟨by show x.ids.length+_<=_;omega,by show 0<=x.size+1;omega,by show x.size+1+_<=_;omega⟩) (hK w (by simp[hu]))
  by_cases k13:t.k=13
  ·obtain⟨u,w,hu⟩:=ks2 (ksk hf (f:=⟨false,false,false,2⟩) (m:=2) (by rw[k13];rfl) rfl)
   exact qs5 hu k13 (hK u (by simp[hu])) (hK w (by simp[hu]))
  by_cases k18:t.k=18
  ·obtain⟨u,hu⟩:=ks1 (ksk hf (f:=⟨true,false,true,1⟩) (m:=1) (by rw[k18];rfl) rfl)
   exact qs8 hu k18 hl (hK u (by simp[hu]))
  exact qnE ⟨k7,k8,k9,k10,k11,k13,k18⟩
def szD:Nat->Sc->Tm->Int×Bool
 |0,_,_=>(0,false)
 |d+1,x,t=>qbl (szD d) x t
theorem qu7:∀(d:Nat) (x:Sc) (t:Tm),t.size<=d->x.B t.size->SzC x t (szD d x t)
 |0,x,t,h,_=>by have:=Tm.size_pos t;omega
 |d+1,x,t,h,hB=>qta hB fun u y hu hy=>qu7 d y u (by omega) hy
theorem qf8 {f g:Tm->Bs->Bool}:∀{ks:List Tm} {ps:List Bs},(∀u∈ks,∀b,f u b=g u b)->qbu f ks ps=qbu g ks ps
 |[],[],_=>rfl
 |[],_::_,_=>rfl
 |_::_,[],_=>rfl
 |u::ks,b::ps,h=>by
  simp only[qbu,h u (zav ..),qf8 (ks:=ks) (ps:=ps) fun v hv=>h v (zaw _ hv)]
theorem qnF {sz sz':Sc->Tm->Int×Bool}{x:Sc}{t:Tm}(h:∀u y,u.size<=t.size->sz y u=sz' y u)(b:Bs):qds sz x t b=qds sz' x t b:=by
 unfold qds
 rw[h t x (zan _)]
 match hks:t.ks with
 |[]=>rfl
 |[_]=>rfl
 |u::w::r=>
  have hu:u.size<t.size:=qa3 (by simp[hks])
  have hw:w.size<t.size:=qa3 (by simp[hks])
  simp only[h u _ (Nat.le_of_lt hu),h w _ (Nat.le_of_lt hw)]
theorem qhf {sz sz':Sc->Tm->Int×Bool}{x:Sc}{t:Tm}(h:∀u y,u.size<t.size->sz y u=sz' y u):qbl sz x t=qbl sz' x t:=by
 have hK:∀u∈t.ks,∀y,sz y u=sz' y u:=fun u hu y=>h u y (qa3 hu)
 have h2:qbu (qds sz x) t.ks ((x.get t.i).getD .none).ty.ps=qbu (qds sz' x) t.ks ((x.get t.i).getD .none).ty.ps:=
  qf8 fun u hu b=>qnF (fun v y hv=>h v y (by have:=qa3 hu;omega)) b
 have h4:(match t.ks with|u::_=>is2 (sz x u) ((x.get t.i).getD .none).ty.res.n|_=>false)=(match t.ks with|u::_=>is2 (sz' x u) ((x.get t.i).getD .none).ty.res.n|_=>false):=by
  match hks:t.ks with
  |[]=>rfl
  |u::r=>simp only[hK u (by simp[hks])]
 have hr:qcL sz x t=qcL sz' x t:=by
  unfold qcL
  match hks:t.ks with
  |[]=>rfl
  |[u]=>simp only[hK u (by simp[hks])]
  |u::w::r=>simp only[hK u (by simp[hks]),hK w (by simp[hks])]
 have hp:qbE sz x t=qbE sz' x t:=by
  unfold qbE
  match hks:t.ks with
  |[]=>rfl
  |[u]=>simp only[hK u (by simp[hks])]
  |[u,w]=>simp only[hK u (by simp[hks]),hK w (by simp[hks])]
  |[c,u,w]=>simp only[hK u (by simp[hks]),hK w (by simp[hks]),hK c (by simp[hks])]
  |_::_::_::_::_=>rfl
 unfold qbl
 rw[h2,h4,hr,hp]
def szF (x:Sc)(t:Tm):Int×Bool:=szD t.size x t
theorem qkG:∀(d:Nat) (x:Sc) (t:Tm),t.size<=d->szD d x t=szF x t
 |0,x,t,h=>by have:=Tm.size_pos t;omega
 |d+1,x,t,h=>by
  have:∃e,t.size=e+1:=⟨t.size-1,by have:=Tm.size_pos t;omega⟩
  obtain⟨e,he⟩:=this
  show qbl (szD d) x t=szD t.size x t
  rw[he]
  show qbl (szD d) x t=qbl (szD e) x t
  refine qhf fun u y hu=>?_
  rw[qkG d y u (by omega),szF]
  rcases zbi e d with h1|h1
  ·rw[qkG e y u (by omega),szF]
  ·have:e=d:=by omega
   rw[this,qkG d y u (by omega),szF]
theorem qcu (x:Sc)(t:Tm):szF x t=qbl szF x t:=by
 rw[<-qkG (t.size+1) x t (by omega)]
 exact qhf fun u y hu=>qkG _ _ _ (by omega)
theorem qtb (x:Sc)(t:Tm)(hB:x.B t.size):SzC x t (szF x t):=qu7 t.size x t (zan _) hB
theorem qu8 (x:Sc)(t:Tm)(b:Bs)(hB:x.B t.size):QC 59 (fun l=>[x.v l,t.v,b.v]) (fun _=>bl (qds szF x t b)):=by
 have hl:x.ids.length<=1000000:=by have:=hB.1;omega
 refine qmK b hl (qtb x t hB) fun u w r e=>?_
 have hu:u.size<t.size:=qa3 (by simp[e])
 have hw:w.size<t.size:=qa3 (by simp[e])
 exact⟨qtb x u (qmM hB hu),qtb _ w (qhe hB hw)⟩
end Go.AI.Tryz
namespace Go.AI
theorem qlH (v:zA):qcx (qcx v)=qcx v:=by cases v<;>rfl
theorem qhg (v:zA):qdq (qdq v)=qdq v:=by
 cases v<;>try rfl
 case agg cs=>
  simp only[qdq,List.map_map,zA.agg.injEq]
  exact List.map_congr_left fun v _=>qlH v
theorem qnG (v:zA):qaF (qaF v)=qaF v:=by
 cases v<;>try rfl
 case agg cs=>exact qhg (.agg cs)
 case tuple vs=>
  simp only[qaF,List.map_map,zA.tuple.injEq]
  exact List.map_congr_left fun v _=>qhg v
theorem qkH (v:zA):qaY (qcx v)=qaY v:=by cases v<;>rfl
theorem qhR (v:zA):qbG (qaF v)=qbG v:=by
 cases v<;>try rfl
 case agg cs=>
  simp only[qaF,qdq,qbG,List.all_map]
  congr 1
  funext v
  exact qkH v
theorem qfr {CP:Nat->Option CF}{f:Nat}{cf:CF}(hcf:CP f=some cf)(hk:cf.keepA=false)(n:Nat)(E:qaU)(args:List zA)(s:ASt):cl (qag CP n E) f args s=cl (qag CP n E) f (args.map qaF) s:=by
 rw[qb0,qb0]
 cases n with
 |zero=>rfl
 |succ n=>
  have h1:(args.map qaF).map qaF=args.map qaF:=by
   rw[List.map_map]
   exact List.map_congr_left fun v _=>qnG v
  have h2:(args.map qaF).all qbG=args.all qbG:=by
   rw[List.all_map]
   congr 1
   funext v
   exact qhR v
  rw[qdL]
  unfold qcm
  rw[hcf,zaa,zaa,hk,za1,h1,h2]
  rfl
theorem qhh (E:qaU)(s:ASt)(es:List (zP×zP)):qcO E (qcp s es) s.next=some es:=by
 unfold qcO qcp
 simp only[qar,qaD rfl,cond_true]
theorem Ty.v_cells3 (t:Ty):zA.cells (some 3) t.v=some [.p (.sl t.ps.length (qaQ Bs.cells t.ps)),bl t.res.cell,i64 t.res.n]:=rfl
end Go.AI
namespace Go.AI.Tryz
def qaE (a:Ar):Sc:=⟨a.ids.map fun t=>⟨t,false⟩,.ofNat a.ids.length,0⟩
def qbW (a:Ar)(t:Tm):Int:=if qbS a≠0 then qbS a else if 600<t.size then 5 else if qds szF (qaE a) t a.root then 0 else 4
theorem qtc (a:Ar)(t:Tm)(oa:a.Ok)(ok:t.Ok)(h1:a.ids.length<=100000)(hs:t.size<=100000):PC CP 31 [a.v,t.v] (i64 (qbW a t)):=by
 have hB:(qaE a).B t.size:=⟨by simp only[qaE,za1];omega,by simp only[qaE];omega,by simp only[qaE];omega⟩
 refine PC.of (cf:=cf31) (np:=2) (args':=[a.v,t.v]) (r:=i64 (qbW a t)) (by kernel_rfl) (by kernel_rfl) rfl (by simp only[zap,qal];rfl) (by simp only[zam,qai];rfl) rfl (fun _=>rfl)
  (((qkE a oa).and ((qq8 t ok (by omega)).and (forms_c.and ((qu8 (qaE a) t a.root hB).and (Ev.ge (a.ids.length+1)))))).mono fun n ⟨ha,hc,hf,hi,hn⟩ E s _ _=>?_)
 rw[s31_eq]
 unfold s31 qbW
 have hld2:∀x y z w:zA,ldL [x,y,z,w] 0 (some 4)=some (.agg [x,y,z,w]):=fun _ _ _ _=>rfl
 have hav:zA.cells (some 4) a.v=some [.p (.sl a.ids.length (qaQ Ty.cells a.ids)),bl a.root.cell,i64 a.root.n,bl a.jumps]:=rfl
 have hag:(zA.agg [.p (.sl a.ids.length (qaQ Ty.cells a.ids)),bl a.root.cell,i64 a.root.n,bl a.jumps])=a.v:=rfl
 have htg:(zA.agg [u8 t.k,i64 t.n,i64 t.m,i64 t.i,.p (.sl t.ks.length (Tm.cellsL t.ks))])=t.v:=(Tm.v_eq t).symm
 have htv:zA.cells (some 5) t.v=some [u8 t.k,i64 t.n,i64 t.m,i64 t.i,.p (.sl t.ks.length (Tm.cellsL t.ks))]:=by rw[Tm.v_eq];rfl
 simp only[hav,htv,zaa,qbA,qb4,hag,htg,ha,qab,qad,qa6,zab,qaa]
 by_cases h0:qbS a=0
 ·simp only[h0,decide_true,zak,cond_false,hc,qab,qad,qaC,zab,zaa,qaa,ne_eq,not_true_eq_false,if_false]
  obtain⟨c1,c2,c3⟩:=t.cnt2_ok
  by_cases h6:600<t.size
  ·have:(600:Int)<Int.ofNat t.cnt2:=by have:=c3 h6;simp only[zaf];omega
   simp only[this,decide_true,cond_true,h6,if_true]
   exact⟨s,rfl⟩
  ·have:¬(600:Int)<Int.ofNat t.cnt2:=by simp only[zaf];omega
   simp only[this,decide_false,cond_false,h6,if_false,qbR,zaa,qbo,hf,qab]
   have hbd:bd [.sl 0 [] .full,i64 0,i64 0,.p .nilMap] [(1,none,.c (i64 (.ofNat a.ids.length))),(3,none,.c (.map s.next))]=some (.agg [.sl 0 [] .full,i64 (.ofNat a.ids.length),i64 0,.map s.next]):=rfl
   simp only[hbd,zaa,qaT,qc3]
   unfold s31_0
   generalize hF:(fun(h29:zA->Nat->List zA->List zA->List zA->List zA->ASt->Res) (x22:zA) (g23:Nat) (c24 c25 c26 c27:List zA) (s28:ASt)=>_)=F
   generalize hs0:qcp s qbs=s0
   let ids:List Se:=a.ids.map fun t=>⟨t,false⟩
   let f:Nat->List zP:=fun j=>qaQ Se.cells (ids.take j)
   have hidl:ids.length=a.ids.length:=by simp only[ids,za1]
   have key:∀k (j g:Nat) (c:List zA),j<=a.ids.length->a.ids.length-j<k->∃s',lp (fun _ _ _ _ _ _ _=>none) F k (i64 (.ofNat j)) g [.p (.sl a.ids.length (qaQ Ty.cells a.ids)),bl a.root.cell,i64 a.root.n,bl a.jumps] [u8 t.k,i64 t.n,i64 t.m,i64 t.i,.p (.sl t.ks.length (Tm.cellsL t.ks))]
     [qb9 f s0.ntok j,i64 (.ofNat a.ids.length),i64 0,.map s.next] c (qc5 s0 4 j)=some (i64 (if qds szF (qaE a) t a.root then 0 else 4),s'):=by
    intro k
    induction k with
    |zero=>intro j g c _ h;omega
    |succ k ih=>
     intro j g c hj hk
     rw[qa5]
     generalize lp _ _ k=L at ih⊢
     subst hF
     rcases zbi j a.ids.length with h|h
     ·have hkj:a.ids[j]? =some a.ids[j]:=zah h
      have hld:∀s,ldH (qag CP n E) s (.elem (qaQ Ty.cells a.ids) (j*3)) (some 3)=some a.ids[j].v:=fun s=>qdr (c:=Ty.cells) (sz:=3) (fun _=>rfl) _ s hkj
      have hij:j<ids.length:=by rw[hidl];exact h
      have hidj:ids[j]=⟨a.ids[j],false⟩:=by simp only[ids,List.getElem_map]
      have hb3:ldL [.p (.sl a.ids[j].ps.length (qaQ Bs.cells a.ids[j].ps)),bl a.ids[j].res.cell,i64 a.ids[j].res.n] 0 (some 3)=some a.ids[j].v:=rfl
      have hbd:bd [.sl 0 [] .full,bl false,i64 0,bl false] [(0,some 3,.c a.ids[j].v)]=some (Se.v ⟨a.ids[j],false⟩):=rfl
      have hms:ms 1 [.sl 0 [],.bool false,.int .i64 0,.bool false] [(0,some 4,.c (Se.v ⟨a.ids[j],false⟩))]=some (.sl 1 (Se.cells ⟨a.ids[j],false⟩) .full):=rfl
      have hap:=qfp (qag CP n E) (sz:=4) (b:=48) (f:=f) (y:=.sl 1 (Se.cells ⟨a.ids[j],false⟩) .full) s0 j rfl rfl (by omega) (by
       have:=qbZ (c:=Se.cells) hij
       rw[hidj] at this
       exact this)
      have hcv:zA.cells none (qb9 f s0.ntok (j+1))=some [qb9 f s0.ntok (j+1)]:=rfl
      simp only[qad,qap,qay,zab,zaa,of_lt.2 h,decide_true,qaa,cond_true,qbV h,qab,hld,Ty.v_cells3,qly,za6,qbR,hb3,hbd,hms,hap,hcv,qgp,qaO (show j<9223372036854775807 by omega)]
      simp only[cnd]
      exact ih (j+1) (g+1) _ (by omega) (by omega)
     ·have:j=a.ids.length:=by omega
      subst this
      have h3:¬(Int.ofNat a.ids.length<Int.ofNat a.ids.length):=fun h=>zaZ _ (of_lt.1 h)
      have hm:qcO E (qc5 s0 4 a.ids.length) s.next=some qbs:=by
       have:(qc5 s0 4 a.ids.length).heap=s0.heap:=by
        cases a.ids.length<;>rfl
       rw[qaW this,<-hs0]
       exact qhh E s qbs
      obtain⟨s',e,_,_⟩:=hi E _ _ hm
      have her:[zA.agg [qb9 f s0.ntok a.ids.length,i64 (.ofNat a.ids.length),i64 0,.map s.next],t.v,a.root.v].map qaF=[(qaE a).v s.next,t.v,a.root.v]:=by
       have h1:qcx (qb9 f s0.ntok a.ids.length)=.p (.sl a.ids.length (f a.ids.length)):=qdc f _ _ rfl
       have h2:f a.ids.length=qaQ Se.cells (qaE a).ids:=by
        show qaQ Se.cells (ids.take a.ids.length)=qaQ Se.cells ids
        rw[<-hidl,List.take_length]
       have h3:(qaE a).ids.length=a.ids.length:=by simp only[qaE,za1]
       simp only[zam,qai,zbm]
       unfold Sc.v
       rw[h3,<-h2,<-h1]
       rfl
      have hcl:=qfr (CP:=CP) (f:=59) (cf:=cf59) (by kernel_rfl) (by kernel_rfl) n E [zA.agg [qb9 f s0.ntok a.ids.length,i64 (.ofNat a.ids.length),i64 0,.map s.next],t.v,a.root.v] (qc5 s0 4 a.ids.length)
      rw[her] at hcl
      have hroot:ldL [.p (.sl a.ids.length (qaQ Ty.cells a.ids)),bl a.root.cell,i64 a.root.n,bl a.jumps] 1 (some 2)=some a.root.v:=rfl
      simp only[qad,qap,zab,zaa,h3,decide_false,qaa,cond_false,qbA,qb4,hroot,htg,hcl,e,qab,qam]
      cases qds szF (qaE a) t a.root
      ·exact⟨s',rfl⟩
      ·exact⟨s',rfl⟩
   obtain⟨s',e⟩:=key n 0 0 [] (za3 _) (by omega)
   exact⟨s',e⟩
 ·simp only[h0,decide_false,zal,cond_true,ne_eq,not_false_eq_true,if_true]
  exact⟨s,rfl⟩
end Go.AI.Tryz
namespace Go.AI
def Tm.c (t:Tm):List zA:=[u8 t.k,i64 t.n,i64 t.m,i64 t.i,.p (.sl t.ks.length (Tm.cellsL t.ks))]
theorem Tm.k_mk (k n m i:Int)(ks:List Tm):(Tm.mk k n m i ks).k=k:=rfl
theorem Tm.n_mk (k n m i:Int)(ks:List Tm):(Tm.mk k n m i ks).n=n:=rfl
theorem Tm.m_mk (k n m i:Int)(ks:List Tm):(Tm.mk k n m i ks).m=m:=rfl
theorem Tm.i_mk (k n m i:Int)(ks:List Tm):(Tm.mk k n m i ks).i=i:=rfl
theorem Tm.ks_mk (k n m i:Int)(ks:List Tm):(Tm.mk k n m i ks).ks=ks:=rfl
abbrev kv (l:List Tm):zA:=.p (.sl l.length (Tm.cellsL l))
def Tm.z:Tm:=.mk 0 0 0 0 []
section
variable (t:Tm)
theorem qah:zA.cells (some 5) t.v=some t.c:=by rw[Tm.v_eq];rfl
theorem qaS:ldL t.c 0 (some 5)=some t.v:=by rw[Tm.v_eq];rfl
theorem qba:ldL t.c 0 none=some (u8 t.k):=rfl
theorem qbX:ldL t.c 1 none=some (i64 t.n):=rfl
theorem qd6:ldL t.c 2 none=some (i64 t.m):=rfl
theorem qcJ:ldL t.c 3 none=some (i64 t.i):=rfl
theorem qbj:ldL t.c 4 none=some (kv t.ks):=rfl
theorem qau (a b c d e:zA):over [a,b,c,d,e] 0 t.c=some t.c:=rfl
theorem qpg (u:Tm):over u.c 0 t.c=some t.c:=rfl
theorem qu9:t.c.all qaY=true:=rfl
end
structure Vw where
 t:Tm
 sz:List Int
 ar:Int
def qcT (n:Int):List zP:=[.int .i64 n]
abbrev iv (l:List Int):zA:=.p (.sl l.length (qaQ qcT l))
def Vw.v (x:Vw):zA:=.agg [u8 x.t.k,i64 x.t.n,i64 x.t.m,i64 x.t.i,kv x.t.ks,iv x.sz,i64 x.ar]
def Vw.c (x:Vw):List zA:=[u8 x.t.k,i64 x.t.n,i64 x.t.m,i64 x.t.i,kv x.t.ks,iv x.sz,i64 x.ar]
section
variable (x:Vw)
theorem qaH:zA.cells (some 7) x.v=some x.c:=rfl
theorem qch:ldL x.c 0 (some 7)=some x.v:=rfl
theorem qlI:ldL x.c 0 none=some (u8 x.t.k):=rfl
theorem qkI:ldL x.c 1 none=some (i64 x.t.n):=rfl
theorem qqr:ldL x.c 2 none=some (i64 x.t.m):=rfl
theorem vld3:ldL x.c 3 none=some (i64 x.t.i):=rfl
theorem qcl:ldL x.c 4 none=some (kv x.t.ks):=rfl
theorem quf:ldL x.c 5 none=some (iv x.sz):=rfl
theorem qph:ldL x.c 6 none=some (i64 x.ar):=rfl
theorem qkJ (a b c d e f g:zA):over [a,b,c,d,e,f,g] 0 x.c=some x.c:=rfl
theorem qdj:x.c.all qaY=true:=rfl
theorem qb6:qbG x.v=true:=rfl
theorem qb7:qaF x.v=x.v:=rfl
end
theorem qrd (l:List Tm):zA.cells none (kv l)=some [kv l]:=rfl
theorem qbx (f l o:Nat)(r:List zA):mf f [] (.ptr l o::r)=some (.func f [] (.ptr l o::r)):=by
 have h:∀xs:List zA,(xs.map Arg.c).map (Arg.ev .nil)=xs:=by
  intro xs
  induction xs with
  |nil=>rfl
  |cons x xs ih=>simp only[zam,ih];rfl
 unfold mf pu
 simp only[qaG,h]
 rfl
theorem qhS (CP:Nat->Option CF){n:Nat}(hn:1<=n)(E:qaU)(f:Nat)(a b args:List zA)(s:ASt):clv (qag CP n E) (.func f a b) args s=cl (qag CP n E) f (a++(args++b)) s:=by
 obtain⟨m,rfl⟩:∃m,n=m+1:=⟨n-1,by omega⟩
 rw[qg1,qnv,qb0]
theorem qhi (CP:Nat->Option CF){n:Nat}(hn:1<=n)(E:qaU)(f:Nat)(args:List zA)(s:ASt):clv (qag CP n E) (.p (.func f [] [])) args s=cl (qag CP n E) f args s:=by
 obtain⟨m,rfl⟩:∃m,n=m+1:=⟨n-1,by omega⟩
 rw[qg1,qe0,qb0]
 simp only[zbm,zbg,zaQ]
@[simp] theorem qbv (off l o:Nat) (k:zA->Res):faK off (.ptr l o) k=k (.ptr l (o+off)):=rfl
@[simp] theorem qbd (s:ASt) (o:zH) (k:Nat->ASt->Res):qeh s o k=k s.next (qak s o):=rfl
theorem ldP {e:Env}{s:ASt}{l:Nat}{cs:List zA}(h:qas e.E s l=some cs)(o:Nat)(n:Option Nat):ldH e s (.ptr l o) n=ldL cs o n:=by
 unfold ldH ldL
 simp only[loadFrom,h,zaa]
 cases n with
 |none=>
  simp only[cnt]
  cases cut cs o 1 with
  |none=>rfl
  |some l=>
   match l with
   |[]=>rfl
   |[_]=>rfl
   |_::_::_=>rfl
 |some m=>
  simp only[cnt]
  cases cut cs o m<;>rfl
theorem qaP (E:qaU)(s:ASt)(cs:List zA):qas E (qak s (.cells cs)) s.next=some cs:=by
 unfold qas qak
 simp only[qar,qaD rfl,cond_true]
theorem qel (E:qaU)(s:ASt)(l:Nat):qas (s.heap++E) {s with heap:=[],toks:=[]} l=qas E s l:=by
 unfold qas
 simp only[qar,qee]
 cases qar s.heap l with
 |none=>rfl
 |some o=>cases o<;>rfl
theorem qcR {e:Env}(s:ASt)(cs:List zA)(o:Nat)(n:Option Nat):ldH e (qak s (.cells cs)) (.ptr s.next o) n=ldL cs o n:=ldP (qaP _ _ _) o n
theorem qdu (E:qaU)(s:ASt)(cs:List zA)(o:zH):qas E (qak (qak s (.cells cs)) o) s.next=some cs:=by
 unfold qas qak
 have:Nat.beq (s.next+1) s.next=false:=by
  cases h:Nat.beq (s.next+1) s.next with
  |false=>rfl
  |true=>have:=beq_iff.1 h;omega
 simp only[qar,this,qaD rfl,cond_true,cond_false]
theorem qsc {e:Env}(s:ASt)(cs:List zA)(p:zH)(o:Nat)(n:Option Nat):ldH e (qak (qak s (.cells cs)) p) (.ptr s.next o) n=ldL cs o n:=ldP (qdu _ _ _ _) o n
theorem qlJ (s:ASt)(zs cs new:List zA)(o:Nat)(ha:cs.all qaY=true)(h:over zs o cs=some new):stH (qak s (.cells zs)) (.ptr s.next o) cs=some (qak s (.cells new)):=by
 unfold stH qbL qak
 simp only[qar,qaK,qaD rfl,cond_true,ha,h,zaa,zab]
def Stab (C:qaU->ASt->Prop):Prop:=∀E s,C E s->C (s.heap++E) {s with heap:=[],toks:=[]}
theorem Stab.at (l:Nat)(cs:List zA):Stab fun E s=>qas E s l=some cs:=fun E s h=>by
 show qas _ _ l=_
 rw[qel];exact h
theorem Stab.and {C D:qaU->ASt->Prop}(h:Stab C)(k:Stab D):Stab fun E s=>C E s/\D E s:=fun E s x=>⟨h E s x.1,k E s x.2⟩
theorem Stab.true:Stab fun _ _=>True:=fun _ _ _=>trivial
def RCn (CP:Nat->Option CF)(f:Nat)(args:List zA)(C:qaU->ASt->Prop)(r:zA):Prop:=Ev fun n=>∀E s,C E s->cl (qag CP n E) f args s=some (r,s)
theorem RCn.of {CP:Nat->Option CF}{f np:Nat}{cf:CF}{args args':List zA}{C:qaU->ASt->Prop}{r':zA}(hcf:CP f=some cf)(hfl:flP cf np=true)(hl:args.length=np)(ha:args.all qbG=true)(hargs:args.map qaF=args')(hC:Stab C)
  (hpl:∀lo,qeD lo r'=true)(hb:Ev fun n=>∀E s,s.heap=[]->s.toks=[]->C E s->∃r s',qav cf (qag CP n E) n args' s=some (r,s')/\qaF r=r'):RCn CP f args C r':=by
 refine Ev.succ (hb.mono fun n h E s hc=>?_)
 obtain⟨r,s',h,hv⟩:=h (s.heap++E) {s with heap:=[],toks:=[]} rfl rfl (hC E s hc)
 rw[qb0]
 exact qg0 hcf hfl hl ha hargs h hv (hpl _)
theorem PC.of2 {CP:Nat->Option CF}{f np:Nat}{cf:CF}{args args':List zA}{r':zA}(hcf:CP f=some cf)(hfl:flP cf np=true)(hl:args.length=np)(ha:args.all qbG=true)(hargs:args.map qaF=args')
  (hpl:∀lo,qeD lo r'=true)(hb:Ev fun n=>∀E s,∃r s',qav cf (qag CP n E) n args' s=some (r,s')/\qaF r=r'):PC CP f args r':=by
 refine Ev.succ (hb.mono fun n h E s=>?_)
 obtain⟨r,s',h,hv⟩:=h (s.heap++E) {s with heap:=[],toks:=[]}
 rw[qb0]
 exact qg0 hcf hfl hl ha hargs h hv (hpl _)
end Go.AI
namespace Go.AI.Tryz
theorem qmN (l:List Int)(hl:l.length<=1000000)(n0:Int):Ev fun n=>∀E s,∃y s1 y2 s2,cl (qag CP n E) 183 [iv l] s=some (y,s1)/\ap (qag CP n E) 1 8 y (.sl 1 (qcT n0) .full) s1=some (y2,s2)/\qcx y2=iv (l++[n0])/\zA.cells none y2=some [y2]/\s2.heap=s.heap/\s2.next=s.next:=by
 refine Ev.succ (Ev.of fun n E s=>?_)
 rw[qb0]
 have h3:ms 0 [] []=some (.sl 0 [] .full):=rfl
 cases l with
 |nil=>
  have h1:(qag CP (n+1) E).call 183 [iv []] s=some (.sl 0 [] .full,s):=by
   refine qmJ (cf:=cf183) (a:=.sl 0 [] .full) (b:=.sl 0 [] .full) (sa:={s with heap:=[],toks:=[]}) (sb:={s with heap:=[],toks:=[]}) (by kernel_rfl) (by kernel_rfl) (by kernel_rfl) (of_decide_eq_true (by kernel_rfl)) rfl rfl ((s183_eq _ _ _ _).trans ?_) ((s183_eq _ _ _ _).trans ?_) rfl rfl<;>rfl
  have hap:=qg9 (qag CP (n+1) E) (sz:=1) (b:=8) (new:=qcT n0) (y:=.sl 1 (qcT n0) .full) s rfl rfl (by omega)
  exact⟨_,_,_,_,h1,hap,rfl,rfl,rfl,rfl⟩
 |cons a r=>
  have hlen:(qaQ qcT (a::r)).length=(r.length+1)*1:=qdX (c:=qcT) (fun _=>rfl) (a::r)
  have hap0:ap (qag CP n E) 1 8 (.sl 0 [] .full) (iv (a::r)) s=_:=qo8 (qag CP n E) (sz:=1) (b:=8) s hlen (by simp only[zar] at hl;omega)
  have h1:(qag CP (n+1) E).call 183 [iv (a::r)] s=some (.sl (r.length+1) (qaQ qcT (a::r)) (.own s.ntok),qji s (r.length+1) 1):=by
   refine qpa (cf:=cf183) (args':=[iv (a::r)]) (by kernel_rfl) (by kernel_rfl) (by kernel_rfl) (by kernel_rfl) (by kernel_rfl) (by kernel_rfl) (of_decide_eq_true (by kernel_rfl)) rfl rfl rfl ((s183_eq _ _ _ _).trans ?_) rfl
   unfold s183
   have hq:eqv 5 false (iv (a::r)) (.sl 0 [] .full)=some (bl false):=rfl
   simp only[hq,zaa,qaa,cond_false,h3,hap0,qab]
  have hap:=qo4 (qag CP (n+1) E) (sz:=1) (b:=8) (n:=r.length+1) (t:=s.ntok) (cs:=qaQ qcT (a::r)) (new:=qcT n0) (y:=.sl 1 (qcT n0) .full) (qji s (r.length+1) 1) rfl rfl (by simp only[zar] at hl;omega) s.toks
  have e1:{qji s (r.length+1) 1 with toks:=(s.ntok,r.length+1,1)::s.toks}=qji s (r.length+1) 1:=rfl
  rw[e1] at hap
  refine⟨_,_,_,_,h1,hap,?_,rfl,rfl,rfl⟩
  show zA.p _=_
  have:qaQ qcT (a::r++[n0])=qaQ qcT (a::r)++qcT n0:=qhd _ _ _
  rw[iv,this]
  simp only[zay,zar,zaC]
def vw (x:Sc)(t:Tm):Vw:=⟨t,x.ids.map fun e=>e.ty.res.n,x.top⟩
def _root_.Go.AI.Sc.kid (x:Sc)(t:Tm)(j:Nat):Sc:=
 if t.k=10 then x.with ⟨⟨[],⟨true,t.n⟩⟩,false⟩
 else if t.k=17/\j=1 then x.with ⟨⟨[],⟨false,(szF x (t.ks.headD .z)).1⟩⟩,true⟩
 else if t.k=11/\j=0 then {x with size:=x.size+1}
 else x
theorem qpi (x:Sc)(e:Se)(t:Tm):vw (x.with e) t=⟨t,(x.ids.map fun e=>e.ty.res.n)++[e.ty.res.n],x.top⟩:=by
 simp only[vw,Sc.with,List.map_append,zam,zbm]
theorem qkK (x:Sc)(t u:Tm)(j:Nat)(hj:t.ks[j]? =some u)(hl:x.ids.length<=1000000)(h17:t.k=17->j=1->∃w,t.ks[0]? =some w/\PC CP 132 [(vw x t).v,i64 0] (vw x w).v/\PC CP 130 [(vw x w).v] (i64 (szF x w).1)):PC CP 132 [(vw x t).v,i64 (.ofNat j)] (vw (x.kid t j) u).v:=by
 have hjl:j<t.ks.length:=(zao.1 hj).1
 have hia:iaV 5 (kv t.ks) (i64 (.ofNat j))=some (Tm.cellsL t.ks,j*5):=Tm.ia_kid hjl
 have hz:∀n0:Int,ms 1 [.int .i64 0] [(0,none,.c (i64 n0))]=some (.sl 1 (qcT n0) .full):=fun _=>rfl
 have hbd:bd [u8 0,i64 0,i64 0,i64 0,.sl 0 [] .full,.sl 0 [] .full,i64 0] [(0,some 5,.c u.v),(5,none,.c (iv (vw x t).sz)),(6,none,.c (i64 (vw x t).ar))]=some (vw x u).v:=by rw[Tm.v_eq];rfl
 have hvz:∀(y:zA) (z:List Int),zA.cells none y=some [y]->∃cs,over (vw x u).c 5 [y]=some cs/\ldL cs 0 (some 7)=some (.agg cs)/\zA.cells (some 7) (.agg cs)=some cs/\(∀a b c d e f g:zA,over [a,b,c,d,e,f,g] 0 cs=some cs)/\(qcx y=iv z->qaF (.agg cs)=(Vw.v ⟨u,z,x.top⟩)):=by
  intro y z hy
  refine⟨[u8 u.k,i64 u.n,i64 u.m,i64 u.i,kv u.ks,y,i64 x.top],rfl,rfl,rfl,fun _ _ _ _ _ _ _=>rfl,fun he=>?_⟩
  show zA.agg [_,_,_,_,_,qcx y,_]=_
  rw[he]
  rfl
 have hsl:(vw x t).sz.length<=1000000:=by simp only[vw,za1];exact hl
 refine PC.of2 (cf:=cf132) (np:=2) (args':=[(vw x t).v,i64 (.ofNat j)]) (by kernel_rfl) (by kernel_rfl) rfl rfl rfl (fun _=>rfl) ?_
 suffices Ev fun n=>∀E s,∃r s',s132 (qag CP n E) n (vw x t).v (i64 (.ofNat j)) s=some (r,s')/\qaF r=(vw (x.kid t j) u).v by
  refine this.mono fun n h E s=>?_
  obtain⟨r,s',e,he⟩:=h E s
  exact⟨r,s',(s132_eq _ _ _ _ _).trans e,he⟩
 have hvk:(vw x t).t=t:=rfl
 have hld:∀n E s,ldH (qag CP n E) s (.elem (Tm.cellsL t.ks) (j*5)) (some 5)=some u.v:=fun n E s=>Tm.ld_kid _ _ hj
 by_cases h10:t.k=10
 ·refine(qmN (vw x t).sz hsl t.n).mono fun n h E s=>?_
  obtain⟨y,s1,y2,s2,e1,e2,e3,e4,_,_⟩:=h E s
  obtain⟨cs,c1,c2,c3,c4,c5⟩:=hvz y2 _ e4
  refine⟨.agg cs,s2,?_,?_⟩
  ·unfold s132 s132_0
   simp only[qaH,qcl,quf,qph,qlI,qkI,hvk,h10,hia,hld,hbd,qkJ,qad,qaf,decide_true,qaa,cond_true,qaj,zab,zaa,qab,e1,hz,e2,e4,c1,c2,c3,c4]
  ·rw[c5 e3]
   simp only[Sc.kid,h10,if_true,qpi]
   rfl
 ·by_cases h17j:t.k=17∧j=1
  ·obtain⟨h17',rfl⟩:=h17j
   obtain⟨w,hw,g1,g2⟩:=h17 h17' rfl
   have hhd:t.ks.headD .z=w:=by
    cases hk:t.ks with
    |nil=>rw[hk] at hw;cases hw
    |cons a r=>rw[hk] at hw;simp only[zas,zac] at hw;exact hw
   refine((qmN (vw x t).sz hsl (szF x w).1).and (g1.and g2)).mono fun n ⟨h,g1,g2⟩ E s=>?_
   obtain⟨y,s1,y2,s2,e1,e2,e3,e4,_,_⟩:=h E s
   obtain⟨cs,c1,c2,c3,c4,c5⟩:=hvz y2 _ e4
   refine⟨.agg cs,s2,?_,?_⟩
   ·unfold s132 s132_2 s132_1 s132_0
    have h1:(Int.ofNat 1:Int)=1:=rfl
    have hia1:iaV 5 (kv t.ks) (i64 1)=some (Tm.cellsL t.ks,1*5):=hia
    simp only[qaH,qcl,quf,qph,qlI,qkI,hvk,h17',hia1,hld,hbd,qkJ,qad,qaf,zaj,h1,decide_true,decide_false,qaa,cond_true,cond_false,qaj,zab,zaa,qab,e1,qch,g1,g2,hz,e2,e4,c1,c2,c3,c4]
   ·rw[c5 e3]
    simp only[Sc.kid,h17',zaj,if_false,true_and,if_true,qpi,hhd]
    rfl
  ·have hkid:(vw (x.kid t j) u)=vw x u:=by
    unfold Sc.kid
    rw[if_neg h10,if_neg h17j]
    split<;>rfl
   refine Ev.of fun n E s=>⟨(vw x u).v,s,?_,by rw[hkid];rfl⟩
   unfold s132 s132_2 s132_1 s132_0
   by_cases h17':t.k=17
   ·have hj1:¬((Int.ofNat j:Int)=1):=by
     intro h
     exact h17j ⟨h17',by simp only[zaf] at h;omega⟩
    simp only[qaH,qch,qcl,quf,qph,qlI,qkI,hvk,h17',hia,hld,hbd,qkJ,qad,qaf,zaj,hj1,decide_true,decide_false,qaa,cond_true,cond_false,qaj,zab,zaa,qab]
   ·simp only[qaH,qch,qcl,quf,qph,qlI,qkI,hvk,h10,h17',hia,hld,hbd,qkJ,qad,qaf,decide_false,qaa,cond_false,qaj,zab,zaa,qab]
end Go.AI.Tryz
namespace Go.AI
namespace Tm
abbrev num (n m:Int):Tm:=.mk 1 n m 0 []
abbrev use (i:Int)(ks:List Tm):Tm:=.mk 2 0 0 i ks
abbrev get (i:Int):Tm:=.mk 3 0 0 i []
abbrev put (i:Int)(u:Tm):Tm:=.mk 4 0 0 i [u]
abbrev op (n m:Int)(u w:Tm):Tm:=.mk 5 n m 0 [u,w]
abbrev az (n:Int)(u:Tm):Tm:=.mk 6 n 0 0 [u]
abbrev seq (u w:Tm):Tm:=.mk 7 0 0 0 [u,w]
abbrev ite (c u w:Tm):Tm:=.mk 8 0 0 0 [c,u,w]
abbrev whl (u w:Tm):Tm:=.mk 9 0 0 0 [u,w]
abbrev new (n m:Int)(u:Tm):Tm:=.mk 10 n m 0 [u]
abbrev lbl (u w:Tm):Tm:=.mk 11 0 0 0 [u,w]
abbrev jmp (n:Int):Tm:=.mk 12 n 0 0 []
abbrev cho (u w:Tm):Tm:=.mk 13 0 0 0 [u,w]
abbrev hang:Tm:=.mk 14 0 0 0 []
abbrev val (i:Int):Tm:=.mk 15 0 0 i []
abbrev cel (i:Int):Tm:=.mk 16 0 0 i []
abbrev obj (u w:Tm):Tm:=.mk 17 0 0 0 [u,w]
abbrev ntc (n i:Int)(u:Tm):Tm:=.mk 18 n 0 i [u]
end Tm
inductive Sh:Tm->Prop where
 |num (n m):Sh (.num n m)
 |use (i ks):Sh (.use i ks)
 |get (i):Sh (.get i)
 |put (i u):Sh (.put i u)
 |op (n m u w):Sh (.op n m u w)
 |az (n u):Sh (.az n u)
 |seq (u w):Sh (.seq u w)
 |ite (c u w):Sh (.ite c u w)
 |whl (u w):Sh (.whl u w)
 |new (n m u):Sh (.new n m u)
 |lbl (u w):Sh (.lbl u w)
 |jmp (n):Sh (.jmp n)
 |cho (u w):Sh (.cho u w)
 |hang:Sh .hang
 |val (i):Sh (.val i)
 |cel (i):Sh (.cel i)
 |obj (u w):Sh (.obj u w)
 |ntc (n i u):Sh (.ntc n i u)
theorem qug {l:List Tm}(h:0=l.length):l=[]:=zaX.1 h.symm
theorem qwn {l:List Tm}(h:1=l.length):∃u,l=[u]:=by
 match l,h with
 |[u],_=>exact⟨u,rfl⟩
theorem qtd {l:List Tm}(h:2=l.length):∃u w,l=[u,w]:=by
 match l,h with
 |[u,w],_=>exact⟨u,w,rfl⟩
theorem len3 {l:List Tm}(h:3=l.length):∃c u w,l=[c,u,w]:=by
 match l,h with
 |[c,u,w],_=>exact⟨c,u,w,rfl⟩
theorem qlK {k:Int}{f:Form}(h:qcq formL k=some f):(k=1/\f=⟨true,true,false,0⟩)\/(k=2/\f=⟨false,false,true,-1⟩)\/(k=3/\f=⟨false,false,true,0⟩)\/(k=4/\f=⟨false,false,true,1⟩)\/(k=5/\f=⟨true,true,false,2⟩)\/(k=6/\f=⟨true,false,false,1⟩)
  \/(k=7/\f=⟨false,false,false,2⟩)\/(k=8/\f=⟨false,false,false,3⟩)\/(k=9/\f=⟨false,false,false,2⟩)\/(k=10/\f=⟨true,true,false,1⟩)\/(k=11/\f=⟨false,false,false,2⟩)\/(k=12/\f=⟨true,false,false,0⟩)
  \/(k=13/\f=⟨false,false,false,2⟩)\/(k=14/\f=⟨false,false,false,0⟩)\/(k=15/\f=⟨false,false,true,0⟩)\/(k=16/\f=⟨false,false,true,0⟩)\/(k=17/\f=⟨false,false,false,2⟩)\/(k=18/\f=⟨true,false,true,1⟩):=by
 unfold formL at h
 iterate 18 (
  unfold qcq at h
  split at h
  ·injection h with h
   subst h
   rename_i e
   subst e
   simp)
 cases h
theorem qlL {t:Tm}(h:qbq t=true):Sh t:=by
 obtain⟨k,n,m,i,ks⟩:=t
 unfold qbq at h
 cases hf:qcq formL (Tm.mk k n m i ks).k with
 |none=>rw[hf] at h;cases h
 |some f=>
  rw[hf] at h
  simp only[zag,za4,decide_eq_true_eq,zaf] at h
  obtain⟨⟨⟨h1,h2⟩,h3⟩,h4⟩:=h
  simp only[Tm.n,Tm.m,Tm.i,Tm.ks] at h1 h2 h3 h4
  rcases qlK hf with⟨e,rfl⟩|⟨e,rfl⟩|⟨e,rfl⟩|⟨e,rfl⟩|⟨e,rfl⟩|⟨e,rfl⟩|⟨e,rfl⟩|⟨e,rfl⟩|⟨e,rfl⟩|⟨e,rfl⟩|⟨e,rfl⟩|⟨e,rfl⟩|⟨e,rfl⟩|⟨e,rfl⟩|⟨e,rfl⟩|⟨e,rfl⟩|⟨e,rfl⟩|⟨e,rfl⟩<;>
   simp only[zai,false_or,true_or,Int.reduceLT,Int.reduceNeg] at h1 h2 h3 h4<;>simp only[Tm.k] at e<;>subst e
  ·subst h3;rw[qug (l:=ks) (by omega)];exact .num ..
  ·subst h1 h2;exact .use ..
  ·subst h1 h2;rw[qug (l:=ks) (by omega)];exact .get ..
  ·subst h1 h2;obtain⟨u,rfl⟩:=qwn (l:=ks) (by omega);exact .put ..
  ·subst h3;obtain⟨u,w,rfl⟩:=qtd (l:=ks) (by omega);exact .op ..
  ·subst h2 h3;obtain⟨u,rfl⟩:=qwn (l:=ks) (by omega);exact .az ..
  ·subst h1 h2 h3;obtain⟨u,w,rfl⟩:=qtd (l:=ks) (by omega);exact .seq ..
  ·subst h1 h2 h3;obtain⟨c,u,w,rfl⟩:=len3 (l:=ks) (by omega);exact .ite ..
  ·subst h1 h2 h3;obtain⟨u,w,rfl⟩:=qtd (l:=ks) (by omega);exact .whl ..
  ·subst h3;obtain⟨u,rfl⟩:=qwn (l:=ks) (by omega);exact .new ..
  ·subst h1 h2 h3;obtain⟨u,w,rfl⟩:=qtd (l:=ks) (by omega);exact .lbl ..
  ·subst h2 h3;rw[qug (l:=ks) (by omega)];exact .jmp ..
  ·subst h1 h2 h3;obtain⟨u,w,rfl⟩:=qtd (l:=ks) (by omega);exact .cho ..
  ·subst h1 h2 h3;rw[qug (l:=ks) (by omega)];exact .hang
  ·subst h1 h2;rw[qug (l:=ks) (by omega)];exact .val ..
  ·subst h1 h2;rw[qug (l:=ks) (by omega)];exact .cel ..
  ·subst h1 h2 h3;obtain⟨u,w,rfl⟩:=qtd (l:=ks) (by omega);exact .obj ..
  ·subst h2;obtain⟨u,rfl⟩:=qwn (l:=ks) (by omega);exact .ntc ..
theorem qc0 {t:Tm}(h:Sh t):qbq t=true:=by
 cases h<;>simp[qbq,Tm.k,Tm.n,Tm.m,Tm.i,Tm.ks,formL,qcq]
end Go.AI
namespace Go.AI.Tryz
section
variable (x:Sc)
theorem qdv (n m):szF x (.num n m)=(m,qbe m&&qbi n m):=by rw[qcu];unfold qbl;rw[if_pos (qc0 (.num ..))];rfl
theorem qf9 (i ks):szF x (.use i ks)=(((x.get i).getD .none).ty.res.n,(x.get i).isSome&&(!((x.get i).getD .none).ty.res.cell&&(!((x.get i).getD .none).arg&&qbu (qds szF x) ks ((x.get i).getD .none).ty.ps))):=by rw[qcu];unfold qbl;rw[if_pos (qc0 (.use ..))];rfl
theorem qhj (i):szF x (.get i)=(((x.get i).getD .none).ty.res.n,(x.get i).any fun e=>e.ty.res.cell):=by rw[qcu];unfold qbl;rw[if_pos (qc0 (.get ..))];rfl
theorem qeI (i u):szF x (.put i u)=(1,((x.get i).any fun e=>e.ty.res.cell)&&is2 (szF x u) ((x.get i).getD .none).ty.res.n):=by rw[qcu];unfold qbl;rw[if_pos (qc0 (.put ..))];rfl
theorem qhk (i):szF x (.val i)=(((x.get i).getD .none).ty.res.n,(x.get i).isSome&&((x.get i).getD .none).arg):=by rw[qcu];unfold qbl;rw[if_pos (qc0 (.val ..))];rfl
theorem qit (n):szF x (.jmp n)=(1,qbi n x.size):=by rw[qcu];unfold qbl;rw[if_pos (qc0 (.jmp ..))];rfl
theorem qhl:szF x .hang=(1,true):=by rw[qcu];unfold qbl;rw[if_pos (qc0 .hang)];rfl
theorem qeE (n m u w):szF x (.op n m u w)=if n=1\/n=2\/n=3 then(m,qbe m&&(is2 (szF x u) m&&is2 (szF x w) m)) else if n=4\/n=5 then(2,qbe m&&(is2 (szF x u) m&&is2 (szF x w) m)) else(0,false):=by rw[qcu];unfold qbl;rw[if_pos (qc0 (.op ..))];rfl
theorem qeF (n u):szF x (.az n u)=(n,(szF x u).2&&qbe n):=by rw[qcu];unfold qbl;rw[if_pos (qc0 (.az ..))];rfl
theorem qbY (u w):szF x (.seq u w)=((szF x w).1,(szF x w).2&&is2 (szF x u) 1):=by rw[qcu];unfold qbl;rw[if_pos (qc0 (.seq ..))];rfl
theorem qcv (c u w):szF x (.ite c u w)=((szF x u).1,((szF x u).2&&is2 (szF x w) (szF x u).1)&&(szF x c).2):=by rw[qcu];unfold qbl;rw[if_pos (qc0 (.ite ..))];rfl
theorem qfs (u w):szF x (.whl u w)=(1,(szF x u).2&&is2 (szF x w) 1):=by rw[qcu];unfold qbl;rw[if_pos (qc0 (.whl ..))];rfl
theorem qeJ (n m u):szF x (.new n m u)=((szF (x.with ⟨⟨[],⟨true,n⟩⟩,false⟩) u).1,(szF (x.with ⟨⟨[],⟨true,n⟩⟩,false⟩) u).2&&(qbe n&&qbi m n)):=by rw[qcu];unfold qbl;rw[if_pos (qc0 (.new ..))];rfl
theorem qem (u w):szF x (.lbl u w)=((szF {x with size:=x.size+1} u).1,(szF {x with size:=x.size+1} u).2&&is2 (szF x w) (szF {x with size:=x.size+1} u).1):=by rw[qcu];unfold qbl;rw[if_pos (qc0 (.lbl ..))];rfl
theorem qen (u w):szF x (.cho u w)=((szF x u).1,(szF x u).2&&is2 (szF x w) (szF x u).1):=by rw[qcu];unfold qbl;rw[if_pos (qc0 (.cho ..))];rfl
theorem qeK (i):szF x (.cel i)=(0,false):=by rw[qcu];unfold qbl;rw[if_pos (qc0 (.cel ..))];rfl
theorem qdM (u w):szF x (.obj u w)=(0,false):=by rw[qcu];unfold qbl;rw[if_pos (qc0 (.obj ..))];rfl
theorem qeo (n i u):szF x (.ntc n i u)=((szF x u).1,(szF x u).2&&(((x.get i).any fun e=>e.ty.res.cell)&&(decide (x.top<i)&&qbi n ((x.get i).getD .none).ty.res.n))):=by rw[qcu];unfold qbl;rw[if_pos (qc0 (.ntc ..))];rfl
theorem qda {x:Sc}{t:Tm}(h:(szF x t).2=true):Sh t:=by
 cases hf:qbq t with
 |true=>exact qlL hf
 |false=>
  rw[qcu] at h
  unfold qbl at h
  simp only[hf,zai,if_false] at h
end
theorem is2_iff {r:Int×Bool}{n:Int}:is2 r n=true↔r=(n,true):=by
 obtain⟨a,b⟩:=r
 simp only[is2,zag,decide_eq_true_eq,zaq]
 exact And.comm
end Go.AI.Tryz
namespace Go.AI
theorem Sc.get_inv {x:Sc}{i:Int}{e:Se}(h:x.get i=some e):∃j:Nat,i=Int.ofNat j+1/\x.ids[j]? =some e:=by
 unfold Sc.get at h
 split at h
 ·cases h
 ·refine⟨(i-1).toNat,?_,h⟩
  simp only[zaf];omega
end Go.AI
namespace Go.AI.Tryz
theorem SizeC.of {x:Sc}{t:Tm}{r:Int}(h:Ev fun n=>∀E s,∃s',s130 (qag CP n E) n (vw x t).v s=some (i64 r,s')):PC CP 130 [(vw x t).v] (i64 r):=by
 refine PC.of2 (cf:=cf130) (np:=1) (args':=[(vw x t).v]) (by kernel_rfl) (by kernel_rfl) rfl rfl rfl (fun _=>rfl) (h.mono fun n h E s=>?_)
 obtain⟨s',e⟩:=h E s
 exact⟨_,s',(s130_eq _ _ _ _).trans e,rfl⟩
theorem qjj {x:Sc}{t:Tm}{e:Se}(hk:t.k=2\/t.k=3\/t.k=15)(he:x.get t.i=some e)(hl:x.ids.length<=1000000):PC CP 130 [(vw x t).v] (i64 e.ty.res.n):=by
 refine SizeC.of (Ev.of fun n E s=>⟨s,?_⟩)
 obtain⟨j,hi,hj⟩:=Sc.get_inv he
 have hjl:j<x.ids.length:=(zao.1 hj).1
 have hsz:(vw x t).sz[j]? =some e.ty.res.n:=by simp only[vw,zbb,hj,zab]
 have hjl2:j<(vw x t).sz.length:=(zao.1 hsz).1
 have hw:qbb .i64 (t.i-1)=Int.ofNat j:=by
  rw[hi,qbt (by simp only[zaf];omega) (by simp only[zaf];omega)]
  simp only[zaf];omega
 have hia:iaV 1 (iv (vw x t).sz) (i64 (.ofNat j))=some (qaQ qcT (vw x t).sz,j*1):=qbV (c:=qcT) (sz:=1) hjl2
 have hld:=qhb (c:=qcT) (sz:=1) (fun _=>rfl) (qag CP n E) s hsz (by omega)
 have hvk:(vw x t).t=t:=rfl
 unfold s130 s130_8 s130_7 s130_6
 rcases hk with hk|hk|hk<;>
 ·simp only[qaH,qlI,vld3,quf,hvk,hk,qad,qaf,qa0,zaj,decide_true,decide_false,qaa,cond_true,cond_false,qaj,zab,zaa,hw,hia,qab,hld]
  rfl
theorem qey {x y:Sc}{t w:Tm}{r:Int}(hk:t.k=7\/t.k=8\/t.k=10\/t.k=11\/t.k=13\/t.k=18){m:Nat}(hm:t.ks.length=m+1)(hm2:m<10)(hkid:PC CP 132 [(vw x t).v,i64 (.ofNat m)] (vw y w).v)(hw:PC CP 130 [(vw y w).v] (i64 r)):PC CP 130 [(vw x t).v] (i64 r):=by
 refine SizeC.of ((hkid.and hw).mono fun n ⟨h1,h2⟩ E s=>⟨s,?_⟩)
 have hvk:(vw x t).t=t:=rfl
 have hln:ln false (kv t.ks)=some (i64 (.ofNat (m+1))):=by rw[<-hm];rfl
 have hw:qbb .i64 (Int.ofNat (m+1)-1)=Int.ofNat m:=by
  rw[qbt (by simp only[zaf];omega) (by simp only[zaf];omega)]
  simp only[zaf];omega
 unfold s130 s130_8 s130_7 s130_6 s130_5 s130_4 s130_3 s130_2 s130_1
 rcases hk with hk|hk|hk|hk|hk|hk<;>
 ·simp only[qaH,qlI,qcl,qch,hvk,hk,hln,qad,qaf,qa0,zaj,decide_true,decide_false,qaa,cond_true,cond_false,qaj,zab,zaa,hw,qab,h1,h2]
theorem qfN:∀(d:Nat) (t:Tm) (x:Sc),t.size<=d->x.B t.size->(szF x t).2=true->PC CP 130 [(vw x t).v] (i64 (szF x t).1)
 |0,t,_,h,_,_=>by have:=Tm.size_pos t;omega
 |d+1,t,x,hd,hB,h=>by
  have hl:x.ids.length<=1000000:=by have:=hB.1;omega
  have IH:∀(u:Tm) (y:Sc),u∈t.ks->y.B u.size->(szF y u).2=true->PC CP 130 [(vw y u).v] (i64 (szF y u).1):=fun u y hu hy hs=>qfN d u y (by have:=qa3 hu;omega) hy hs
  have hvk:(vw x t).t=t:=rfl
  cases qda h with
  |num n m=>
   rw[qdv] at h⊢
   refine SizeC.of (Ev.of fun n E s=>⟨s,?_⟩)
   unfold s130
   simp only[qaH,qlI,qqr,hvk,Tm.k_mk,Tm.m_mk,qad,qaf,decide_true,qaa,cond_true,zab,zaa]
  |use i ks=>
   rw[qf9] at h⊢
   cases he:x.get i with
   |none=>rw[he] at h;cases h
   |some e=>exact qjj (t:=.use i ks) (.inl rfl) he hl
  |get i=>
   rw[qhj] at h⊢
   cases he:x.get i with
   |none=>rw[he] at h;cases h
   |some e=>exact qjj (t:=.get i) (.inr (.inl rfl)) he hl
  |val i=>
   rw[qhk] at h⊢
   cases he:x.get i with
   |none=>rw[he] at h;cases h
   |some e=>exact qjj (t:=.val i) (.inr (.inr rfl)) he hl
  |put i u=>
   rw[qeI]
   refine SizeC.of (Ev.of fun n E s=>⟨s,?_⟩)
   unfold s130 s130_8 s130_7 s130_6 s130_5 s130_4 s130_3 s130_2 s130_1
   simp only[qaH,qlI,qqr,hvk,Tm.k_mk,Tm.m_mk,qad,qaf,zaj,decide_false,qaa,cond_false,qaj,zab,zaa]
  |whl u w=>
   rw[qfs]
   refine SizeC.of (Ev.of fun n E s=>⟨s,?_⟩)
   unfold s130 s130_8 s130_7 s130_6 s130_5 s130_4 s130_3 s130_2 s130_1
   simp only[qaH,qlI,qqr,hvk,Tm.k_mk,Tm.m_mk,qad,qaf,zaj,decide_false,qaa,cond_false,qaj,zab,zaa]
  |jmp n=>
   rw[qit]
   refine SizeC.of (Ev.of fun n E s=>⟨s,?_⟩)
   unfold s130 s130_8 s130_7 s130_6 s130_5 s130_4 s130_3 s130_2 s130_1
   simp only[qaH,qlI,qqr,hvk,Tm.k_mk,Tm.m_mk,qad,qaf,zaj,decide_false,qaa,cond_false,qaj,zab,zaa]
  |hang=>
   rw[qhl]
   refine SizeC.of (Ev.of fun n E s=>⟨s,?_⟩)
   unfold s130 s130_8 s130_7 s130_6 s130_5 s130_4 s130_3 s130_2 s130_1
   simp only[qaH,qlI,qqr,hvk,Tm.k_mk,Tm.m_mk,qad,qaf,zaj,decide_false,qaa,cond_false,qaj,zab,zaa]
  |op n m u w=>
   rw[qeE] at h⊢
   refine SizeC.of (Ev.of fun n' E s=>⟨s,?_⟩)
   unfold s130 s130_8 s130_7 s130_6 s130_0
   by_cases h1:n=1\/n=2\/n=3
   ·have h4:¬n=4:=by omega
    have h5:¬n=5:=by omega
    simp only[qaH,qlI,qkI,qqr,hvk,Tm.k_mk,Tm.m_mk,Tm.n_mk,h1,h4,h5,if_true,qad,qaf,zaj,decide_true,decide_false,qaa,cond_true,cond_false,qaj,zab,zaa]
   ·simp only[h1,if_false] at h
    by_cases h45:n=4\/n=5
    ·simp only[qaH,qlI,qkI,qqr,hvk,Tm.k_mk,Tm.m_mk,Tm.n_mk,h1,h45,if_true,if_false,qad,qaf,zaj,decide_true,decide_false,qaa,cond_true,cond_false,qaj,zab,zaa]
     rcases h45 with rfl|rfl<;>rfl
    ·simp only[h45,if_false] at h
     cases h
  |az n u=>
   rw[qeF]
   refine SizeC.of (Ev.of fun n E s=>⟨s,?_⟩)
   unfold s130 s130_8 s130_7 s130_6
   simp only[qaH,qlI,qkI,hvk,Tm.k_mk,Tm.n_mk,qad,qaf,zaj,decide_true,decide_false,qaa,cond_true,cond_false,qaj,zab,zaa]
  |seq u w=>
   rw[qbY] at h⊢
   simp only[zag] at h
   have hw:w∈(Tm.seq u w).ks:=by simp[Tm.ks]
   exact qey (y:=x) (w:=w) (.inl rfl) (m:=1) rfl (by omega) (qkK x _ w 1 rfl hl (fun h=>nomatch h)) (IH w x hw (qmM hB (qa3 hw)) h.1)
  |ite c u w=>
   rw[qcv] at h⊢
   simp only[zag,decide_eq_true_eq] at h
   have hw:w∈(Tm.ite c u w).ks:=by simp[Tm.ks]
   have:=IH w x hw (qmM hB (qa3 hw)) h.1.2.1
   rw[h.1.2.2] at this
   exact qey (y:=x) (w:=w) (.inr (.inl rfl)) (m:=2) rfl (by omega) (qkK x _ w 2 rfl hl (fun h=>nomatch h)) this
  |new n m u=>
   rw[qeJ] at h⊢
   simp only[zag] at h
   have hu:u∈(Tm.new n m u).ks:=by simp[Tm.ks]
   exact qey (w:=u) (.inr (.inr (.inl rfl))) (m:=0) rfl (by omega) (qkK x _ u 0 rfl hl (fun h=>nomatch h)) (IH u _ hu (qhe hB (qa3 hu)) h.1)
  |lbl u w=>
   rw[qem] at h⊢
   simp only[zag,decide_eq_true_eq] at h
   have hw:w∈(Tm.lbl u w).ks:=by simp[Tm.ks]
   have:=IH w x hw (qmM hB (qa3 hw)) h.2.1
   rw[h.2.2] at this
   exact qey (y:=x) (w:=w) (.inr (.inr (.inr (.inl rfl)))) (m:=1) rfl (by omega) (qkK x _ w 1 rfl hl (fun h=>nomatch h)) this
  |cho u w=>
   rw[qen] at h⊢
   simp only[zag,decide_eq_true_eq] at h
   have hw:w∈(Tm.cho u w).ks:=by simp[Tm.ks]
   have:=IH w x hw (qmM hB (qa3 hw)) h.2.1
   rw[h.2.2] at this
   exact qey (y:=x) (w:=w) (.inr (.inr (.inr (.inr (.inl rfl))))) (m:=1) rfl (by omega) (qkK x _ w 1 rfl hl (fun h=>nomatch h)) this
  |ntc n i u=>
   rw[qeo] at h⊢
   simp only[zag] at h
   have hu:u∈(Tm.ntc n i u).ks:=by simp[Tm.ks]
   exact qey (y:=x) (w:=u) (.inr (.inr (.inr (.inr (.inr rfl))))) (m:=0) rfl (by omega) (qkK x _ u 0 rfl hl (fun h=>nomatch h)) (IH u x hu (qmM hB (qa3 hu)) h.1)
  |cel i=>rw[qeK] at h;cases h
  |obj u w=>rw[qdM] at h;cases h
theorem qpj (x:Sc)(t u:Tm)(j:Nat)(hj:t.ks[j]? =some u)(hB:x.B t.size)(h17:t.k=17->j=1->∃w,t.ks[0]? =some w/\(szF x w).2=true):PC CP 132 [(vw x t).v,i64 (.ofNat j)] (vw (x.kid t j) u).v:=by
 have hl:x.ids.length<=1000000:=by have:=hB.1;omega
 refine qkK x t u j hj hl fun k17 hj1=>?_
 obtain⟨w,hw,hs⟩:=h17 k17 hj1
 have hm:w∈t.ks:=zaN hw
 have h0:=qkK x t w 0 hw hl (fun _ h=>nomatch h)
 have e:vw (x.kid t 0) w=vw x w:=by
  have:¬t.k=10:=by omega
  simp only[Sc.kid,this,if_false]
  simp only[k17]
  rfl
 rw[e] at h0
 exact⟨w,hw,h0,qfN _ w x (zan _) (qmM hB (qa3 hm)) hs⟩
end Go.AI.Tryz
namespace Go.AI
def qcM (o:Option Tm):zA:=.tuple [(o.getD .z).v,bl o.isSome]
theorem qaB (o:Option Tm):qcM o=.tuple [(o.getD .z).v,bl o.isSome]:=rfl
theorem qaN (o:Option Tm):qaF (qcM o)=qcM o:=by
 cases o with
 |none=>rfl
 |some t=>
  show zA.tuple [qdq t.v,_]=_
  have:qdq t.v=t.v:=by rw[Tm.v_eq];rfl
  rw[this];rfl
theorem qaR (lo:Nat)(o:Option Tm):qeD lo (qcM o)=true:=by
 cases o with
 |none=>rfl
 |some t=>
  show List.all [t.v,bl true] (qh1 lo)=true
  have:qh1 lo t.v=true:=by rw[Tm.v_eq];rfl
  simp only[zap,this];rfl
theorem qre (a b:Tm):ms 2 [.int .u8 0,.int .i64 0,.int .i64 0,.int .i64 0,.sl 0 [],.int .u8 0,.int .i64 0,.int .i64 0,.int .i64 0,.sl 0 []] [(0,some 5,.c a.v),(5,some 5,.c b.v)]=some (.sl 2 (Tm.cellsL [a,b]) .full):=by
 obtain⟨k,n,m,i,ks⟩:=a
 obtain⟨k',n',m',i',ks'⟩:=b
 rfl
theorem qxz (a b c:Tm):ms 3 [.int .u8 0,.int .i64 0,.int .i64 0,.int .i64 0,.sl 0 [],.int .u8 0,.int .i64 0,.int .i64 0,.int .i64 0,.sl 0 [],.int .u8 0,.int .i64 0,.int .i64 0,.int .i64 0,.sl 0 []] [(0,some 5,.c a.v),(5,some 5,.c b.v),(10,some 5,.c c.v)]=some (.sl 3 (Tm.cellsL [a,b,c]) .full):=by
 obtain⟨k,n,m,i,ks⟩:=a
 obtain⟨k',n',m',i',ks'⟩:=b
 obtain⟨k'',n'',m'',i'',ks''⟩:=c
 rfl
theorem qpk (a:Tm):ms 1 [.int .u8 0,.int .i64 0,.int .i64 0,.int .i64 0,.sl 0 []] [(0,some 5,.c a.v)]=some (.sl 1 (Tm.cellsL [a]) .full):=by
 obtain⟨k,n,m,i,ks⟩:=a
 rfl
end Go.AI
namespace Go.AI.Tryz
theorem vwt (x:Sc)(t:Tm):(vw x t).t=t:=rfl
theorem quh (x:Sc)(t:Tm):(vw x t).ar=x.top:=rfl
abbrev ev0:Ev fun _=>True:=Ev.of fun _=>trivial
theorem qva (k n m:Int)(l:List Tm):PC CP 136 [u8 k,i64 n,i64 m,kv l] ((Tm.mk k n m 0 l).v):=by
 refine PC.of2 (cf:=cf136) (np:=4) (args':=[u8 k,i64 n,i64 m,kv l]) (by kernel_rfl) (by kernel_rfl) rfl (by first|rfl|(simp only[zap,qal,qb6];rfl)) (by first|rfl|(simp only[zam,qai,qb7];rfl)) (fun lo=>by first|rfl|exact qaM lo _|exact qaR lo _|exact qce lo _ _) (Ev.mono (ev0) fun N _ E s=>⟨(Tm.mk k n m 0 l).v,s,(s136_eq _ _ _ _ _ _ _).trans ?_,(by first|rfl|exact qai _|exact qaN _|exact qb1 _ _)⟩)
 unfold s136
 have h:bd [u8 0,i64 0,i64 0,i64 0,.sl 0 [] .full] [(0,none,.c (u8 k)),(1,none,.c (i64 n)),(2,none,.c (i64 m)),(4,none,.c (kv l))]=some (Tm.mk k n m 0 l).v:=by rw[Tm.v_eq];rfl
 simp only[h,qah,qaS,qau,zaa]
theorem qnH (k n m:Int)(l:List Tm)(tk:Tk){n':Nat}{E:qaU}(h:∀E s,cl (qag CP n' E) 136 [u8 k,i64 n,i64 m,kv l] s=some ((Tm.mk k n m 0 l).v,s))(s:ASt):cl (qag CP n' E) 136 [u8 k,i64 n,i64 m,.sl l.length (Tm.cellsL l) tk] s=some ((Tm.mk k n m 0 l).v,s):=by
 rw[qfr (cf:=cf136) (by kernel_rfl) (by kernel_rfl)]
 exact h E s
theorem qpl (a b:Int):PC CP 128 [i64 a,i64 b] ((Tm.num a b).v):=by
 refine PC.of2 (cf:=cf128) (np:=2) (args':=[i64 a,i64 b]) (by kernel_rfl) (by kernel_rfl) rfl (by first|rfl|(simp only[zap,qal,qb6];rfl)) (by first|rfl|(simp only[zam,qai,qb7];rfl)) (fun lo=>by first|rfl|exact qaM lo _|exact qaR lo _|exact qce lo _ _) (Ev.mono (qva 1 a b []) fun N h E s=>⟨(Tm.num a b).v,s,(s128_eq _ _ _ _ _).trans ?_,(by first|rfl|exact qai _|exact qaN _|exact qb1 _ _)⟩)
 have h':=qnH (E:=E) 1 a b [] .full h s
 simp only[zaC,Tm.cellsL] at h'
 unfold s128
 simp only[h',qah,qaS,qau,zaa,qab]
theorem qpm (a b:Tm):PC CP 141 [a.v,b.v] ((Tm.seq a b).v):=by
 refine PC.of2 (cf:=cf141) (np:=2) (args':=[a.v,b.v]) (by kernel_rfl) (by kernel_rfl) rfl (by first|rfl|(simp only[zap,qal];rfl)) (by first|rfl|(simp only[zam,qai];rfl)) (fun lo=>by first|rfl|exact qaM lo _|exact qaR lo _|exact qce lo _ _) (Ev.mono (qva 7 0 0 [a,b]) fun N h E s=>⟨(Tm.seq a b).v,s,(s141_eq _ _ _ _ _).trans ?_,(by first|rfl|exact qai _|exact qaN _|exact qb1 _ _)⟩)
 have h':=qnH (E:=E) 7 0 0 [a,b] .full h s
 simp only[zar,zaC,zaF,Nat.reduceAdd] at h'
 unfold s141
 simp only[qre,h',qah,qaS,qau,zaa,qab]
theorem qwZ (a:Tm):PC CP 142 [a.v] ((Tm.az 1 a).v):=by
 refine PC.of2 (cf:=cf142) (np:=1) (args':=[a.v]) (by kernel_rfl) (by kernel_rfl) rfl (by first|rfl|(simp only[zap,qal];rfl)) (by first|rfl|(simp only[zam,qai];rfl)) (fun lo=>by first|rfl|exact qaM lo _|exact qaR lo _|exact qce lo _ _) (Ev.mono (qva 6 1 0 [a]) fun N h E s=>⟨(Tm.az 1 a).v,s,(s142_eq _ _ _ _).trans ?_,(by first|rfl|exact qai _|exact qaN _|exact qb1 _ _)⟩)
 have h':=qnH (E:=E) 6 1 0 [a] .full h s
 simp only[zar,zaC,zaF] at h'
 unfold s142
 simp only[qpk,h',qah,qaS,qau,zaa,qab]
def qaI (t:Tm):Bool:=decide (t.k=1)
def qbH (t:Tm)(n m:Int):Bool:=qaI t&&(decide (t.n=n)&&decide (t.m=m))
theorem qbT (t:Tm):PC CP 125 [t.v] (bl (qaI t)):=by
 refine PC.of2 (cf:=cf125) (np:=1) (args':=[t.v]) (by kernel_rfl) (by kernel_rfl) rfl (by first|rfl|(simp only[zap,qal];rfl)) (by first|rfl|(simp only[zam,qai];rfl)) (fun lo=>by first|rfl|exact qaM lo _|exact qaR lo _|exact qce lo _ _) (Ev.mono (ev0) fun N _ E s=>⟨bl (qaI t),s,(s125_eq _ _ _ _).trans ?_,(by first|rfl|exact qai _|exact qaN _|exact qb1 _ _)⟩)
 unfold s125 qaI
 simp only[qah,qba,qad,qaf,zab,zaa]
theorem qjk (t:Tm)(n0 m0:Int):PC CP 143 [t.v,i64 n0,i64 m0] (bl (qbH t n0 m0)):=by
 refine PC.of2 (cf:=cf143) (np:=3) (args':=[t.v,i64 n0,i64 m0]) (by kernel_rfl) (by kernel_rfl) rfl (by first|rfl|(simp only[zap,qal];rfl)) (by first|rfl|(simp only[zam,qai];rfl)) (fun lo=>by first|rfl|exact qaM lo _|exact qaR lo _|exact qce lo _ _) (Ev.mono (qbT t) fun N h E s=>⟨bl (qbH t n0 m0),s,(s143_eq _ _ _ _ _ _).trans ?_,(by first|rfl|exact qai _|exact qaN _|exact qb1 _ _)⟩)
 unfold s143 s143_0 qbH
 simp only[h,qah,qaS,qbX,qd6,qad,qaf,qaa,qaj,zab,zaa,qab]
 cases qaI t<;>cases decide (t.n=n0)<;>rfl
theorem qdo (x:Vw)(k:Int):PC CP 124 [x.v,u8 k] (bl (decide (x.t.k=k))):=by
 refine PC.of2 (cf:=cf124) (np:=2) (args':=[x.v,u8 k]) (by kernel_rfl) (by kernel_rfl) rfl (by first|rfl|(simp only[zap,qal,qb6];rfl)) (by first|rfl|(simp only[zam,qai,qb7];rfl)) (fun lo=>by first|rfl|exact qaM lo _|exact qaR lo _|exact qce lo _ _) (Ev.mono (ev0) fun N _ E s=>⟨bl (decide (x.t.k=k)),s,(s124_eq _ _ _ _ _).trans ?_,(by first|rfl|exact qai _|exact qaN _|exact qb1 _ _)⟩)
 unfold s124
 simp only[qaH,qlI,qad,qaf,zab,zaa]
theorem qte (b:Bool):PC CP 138 [bl b] (i64 (cond b 1 0)):=by
 refine PC.of2 (cf:=cf138) (np:=1) (args':=[bl b]) (by kernel_rfl) (by kernel_rfl) rfl (by first|rfl|(simp only[zap,qal,qb6];rfl)) (by first|rfl|(simp only[zam,qai,qb7];rfl)) (fun lo=>by first|rfl|exact qaM lo _|exact qaR lo _|exact qce lo _ _) (Ev.mono (ev0) fun N _ E s=>⟨i64 (cond b 1 0),s,(s138_eq _ _ _ _).trans ?_,(by first|rfl|exact qai _|exact qaN _|exact qb1 _ _)⟩)
 unfold s138
 cases b<;>rfl
theorem nothing_c:PC CP 98 [] (qcM none):=by
 refine PC.of2 (cf:=cf98) (np:=0) (args':=[]) (by kernel_rfl) (by kernel_rfl) rfl (by first|rfl|(simp only[zap,qal,qb6];rfl)) (by first|rfl|(simp only[zam,qai,qb7];rfl)) (fun lo=>by first|rfl|exact qaM lo _|exact qaR lo _|exact qce lo _ _) (Ev.mono (ev0) fun N _ E s=>⟨.tuple [.agg [u8 0,i64 0,i64 0,i64 0,.sl 0 [] .full],bl false],s,(s98_eq _ _ _).trans ?_,(by first|rfl|exact qai _|exact qaN _|exact qb1 _ _)⟩)
 rfl
theorem qfO (x:Vw)(u:Tm)(hu:x.t.ks[0]? =some u):PC CP 133 [x.v] (u.v):=by
 refine PC.of2 (cf:=cf133) (np:=1) (args':=[x.v]) (by kernel_rfl) (by kernel_rfl) rfl (by first|rfl|(simp only[zap,qal,qb6];rfl)) (by first|rfl|(simp only[zam,qai,qb7];rfl)) (fun lo=>by first|rfl|exact qaM lo _|exact qaR lo _|exact qce lo _ _) (Ev.mono (ev0) fun N _ E s=>⟨u.v,s,(s133_eq _ _ _ _).trans ?_,(by first|rfl|exact qai _|exact qaN _|exact qb1 _ _)⟩)
 obtain⟨i0,l0⟩:=qb5 (n:=N) (E:=E) hu
 unfold s133
 simp only[i0,l0,qah,qaS,qau,qaH,qcl,zaa,qab]
theorem qmO (x:Vw)(u:Tm)(hu:x.t.ks[1]? =some u):PC CP 145 [x.v] (u.v):=by
 refine PC.of2 (cf:=cf145) (np:=1) (args':=[x.v]) (by kernel_rfl) (by kernel_rfl) rfl (by first|rfl|(simp only[zap,qal,qb6];rfl)) (by first|rfl|(simp only[zam,qai,qb7];rfl)) (fun lo=>by first|rfl|exact qaM lo _|exact qaR lo _|exact qce lo _ _) (Ev.mono (ev0) fun N _ E s=>⟨u.v,s,(s145_eq _ _ _ _).trans ?_,(by first|rfl|exact qai _|exact qaN _|exact qb1 _ _)⟩)
 obtain⟨i0,l0⟩:=qdt (n:=N) (E:=E) hu
 unfold s145
 simp only[i0,l0,qah,qaS,qau,qaH,qcl,zaa,qab]
theorem qvb (b:Bool)(f:Nat)(C:qaU->ASt->Prop)(hC:Stab C)(t:Tm)(h:b=true->Ev fun n=>∀E s,C E s->clv (qag CP n E) (.p (.func f [] [])) [] s=some (t.v,s)):RCn CP 126 [bl b,.p (.func f [] [])] C (qcM (if b then some t else none)):=by
 refine RCn.of (cf:=cf126) (np:=2) (args':=[bl b,.p (.func f [] [])]) (by kernel_rfl) (by kernel_rfl) rfl rfl rfl hC (fun lo=>qaR lo _) ?_
 cases b with
 |false=>
  refine nothing_c.mono fun n h E s _ _ _=>⟨_,s,(s126_eq _ _ _ _ _).trans ?_,qaN _⟩
  unfold s126
  have e:qcM none=.tuple [Tm.z.v,bl false]:=rfl
  simp only[h,e,qah,qaS,qau,zal,qaa,cond_true,zaa,qab,qan,qaw,qax,qam,qaB]
  rfl
 |true=>
  refine(h rfl).mono fun n h E s _ _ hc=>⟨_,s,(s126_eq _ _ _ _ _).trans ?_,qaN _⟩
  unfold s126
  simp only[h E s hc,qah,qaS,qau,zak,qaa,cond_false,zaa,qab,qam,qaB]
  rfl
end Go.AI.Tryz
namespace Go.AI.Tryz
open Classical
theorem qtf (az bs:List Tm)(h1:az.length<=maxLen)(h2:bs.length<=maxLen)(h:∀a∈az,∀b∈bs,PC CP 139 [a.v,b.v] (bl (decide (a=b)))):PC CP 185 [kv az,kv bs,.p (.func 139 [] [])] (bl (decide (az=bs))):=by
 have hev:Ev fun n=>∀a∈az,∀b∈bs,∀E s,cl (qag CP n E) 139 [a.v,b.v] s=some (bl (decide (a=b)),s):=Ev.all az fun a ha=>Ev.all bs fun b hb=>h a ha b hb
 rw[qbK] at h1 h2
 refine PC.of2 (cf:=cf185) (np:=3) (args':=[kv az,kv bs,.p (.func 139 [] [])]) (by kernel_rfl) (by kernel_rfl) rfl rfl rfl (fun _=>rfl) ((hev.and (Ev.ge (az.length+1))).mono fun n ⟨hn,hm⟩ E s=>⟨bl (decide (az=bs)),s,(s185_eq _ _ _ _ _ _).trans ?_,rfl⟩)
 unfold s185
 simp only[qad,qa6,qaa,zab,zaa,qbo]
 by_cases hlen:az.length=bs.length
 ·have hd:decide (Int.ofNat az.length=Int.ofNat bs.length)=true:=by simp only[hlen,decide_true]
  simp only[hd,zak,cond_false]
  unfold s185_0
  generalize hF:(fun(h14:zA->Nat->Nat->List zA->List zA->ASt->Res) (x8:zA) (g9 g10:Nat) (c11 c12:List zA) (s13:ASt)=>_)=F
  have key:∀k (j g g':Nat) (c c':List zA),j<=az.length->az.length-j<k->lp (fun _ _ _ _ _ _=>none) F k (i64 (.ofNat j)) g g' c c' s=some (bl (decide (az.drop j=bs.drop j)),s):=by
   intro k
   induction k with
   |zero=>intro j g g' c c' _ h;omega
   |succ k ih=>
    intro j g g' c c' hj hk
    rw[qa5]
    generalize lp _ _ k=L at ih⊢
    subst hF
    rcases zbi j az.length with h|h
    ·have hb:j<bs.length:=by omega
     have ka:az[j]? =some az[j]:=zah h
     have kb:bs[j]? =some bs[j]:=zah hb
     have ia:iaV 5 (kv az) (i64 (.ofNat j))=some (Tm.cellsL az,j*5):=Tm.ia_kid h
     have ib:iaV 5 (kv bs) (i64 (.ofNat j))=some (Tm.cellsL bs,j*5):=Tm.ia_kid hb
     have la:∀s,ldH (qag CP n E) s (.elem (Tm.cellsL az) (j*5)) (some 5)=some az[j].v:=fun s=>Tm.ld_kid _ _ ka
     have lb:∀s,ldH (qag CP n E) s (.elem (Tm.cellsL bs) (j*5)) (some 5)=some bs[j].v:=fun s=>Tm.ld_kid _ _ kb
     have hc:=hn az[j] (za5 h) bs[j] (za5 hb) E s
     rw[zaz h,zaz hb]
     simp only[of_lt.2 h,ia,ib,la,lb,za6,qhi CP (show 1<=n by omega),hc,qaO (show j<9223372036854775807 by omega),qah,qaS,qau,qad,qap,qay,decide_true,qaa,cond_true,zab,zaa,qab,qam,cnd]
     by_cases he:az[j]=bs[j]
     ·simp only[he,decide_true,zak,cond_false,List.cons.injEq,true_and]
      exact ih _ _ _ _ _ (by omega) (by omega)
     ·simp only[he,decide_false,zal,cond_true,List.cons.injEq,false_and]
    ·have hje:j=az.length:=by omega
     subst hje
     have h3:¬(Int.ofNat az.length<Int.ofNat az.length):=fun h=>zaZ _ (of_lt.1 h)
     have d1:az.drop az.length=[]:=zbc
     have d2:bs.drop az.length=[]:=by rw[hlen,zbc]
     simp only[h3,d1,d2,qad,qap,qay,decide_true,decide_false,qaa,cond_false,zab,zaa,cnd]
  exact key n 0 0 0 [] [] (za3 _) (by omega)
 ·have hd:decide (Int.ofNat az.length=Int.ofNat bs.length)=false:=by simp only[zaf,decide_eq_false_iff_not];omega
  have hne:az≠bs:=fun h=>hlen (by rw[h])
  simp only[hd,hne,decide_false,zal,cond_true]
theorem qjl (a:Tm):∀(b:Tm),a.Ok->b.Ok->PC CP 139 [a.v,b.v] (bl (decide (a=b))):=by
 induction a using Tm.ind with
 |h k n m i ks ih=>
  intro b ha hb
  have hkids:=qtf ks b.ks ha.len hb.len fun x hx y hy=>ih x hx y (ha.kids x hx) (hb.kids y hy)
  obtain⟨k',n',m',i',ks'⟩:=b
  refine PC.of2 (cf:=cf139) (np:=2) (args':=[(Tm.mk k n m i ks).v,(Tm.mk k' n' m' i' ks').v]) (by kernel_rfl) (by kernel_rfl) rfl (by simp only[zap,qal];rfl) (by simp only[zam,qai];rfl) (fun _=>rfl) (hkids.mono fun n0 h E s=>⟨bl (decide (Tm.mk k n m i ks=Tm.mk k' n' m' i' ks')),s,(s139_eq _ _ _ _ _).trans ?_,rfl⟩)
  unfold s139 s139_0
  have hd:decide (Tm.mk k n m i ks=Tm.mk k' n' m' i' ks')=(decide (k=k')&&(decide (n=n')&&(decide (m=m')&&(decide (i=i')&&decide (ks=ks'))))):=by
   simp only[Tm.mk.injEq,Bool.decide_and]
  simp only[Tm.ks] at h
  rw[hd]
  simp only[Tm.k,Tm.n,Tm.m,Tm.i,Tm.ks,h,qah,qba,qbX,qd6,qcJ,qbj,qad,qaf,qaa,qaj,zab,zaa,qab]
  cases decide (k=k')<;>cases decide (n=n')<;>cases decide (m=m')<;>cases decide (i=i')<;>rfl
end Go.AI.Tryz
namespace Go.AI.Tryz
def IC {ι:Type}(f:Nat)(args:ι->List zA)(C:ι->qaU->ASt->Prop)(r:zA):Prop:=Ev fun n=>∀p E s,C p E s->cl (qag CP n E) f (args p) s=some (r,s)
theorem IC.of {ι:Type}{f np:Nat}{cf:CF}{args args':ι->List zA}{C:ι->qaU->ASt->Prop}{r':zA}(hcf:CP f=some cf)(hfl:flP cf np=true)(hl:∀p,(args p).length=np)(ha:∀p,(args p).all qbG=true)(hargs:∀p,(args p).map qaF=args' p)(hC:∀p,Stab (C p))
  (hpl:∀lo,qeD lo r'=true)(hb:Ev fun n=>∀p E s,C p E s->∃r s',qav cf (qag CP n E) n (args' p) s=some (r,s')/\qaF r=r'):IC f args C r':=by
 refine Ev.succ (hb.mono fun n h p E s hc=>?_)
 obtain⟨r,s',h,hv⟩:=h p (s.heap++E) {s with heap:=[],toks:=[]} (hC p E s hc)
 rw[qb0]
 exact qg0 hcf hfl (hl p) (ha p) (hargs p) h hv (hpl _)
abbrev C1 (cs:List zA):Nat->qaU->ASt->Prop:=fun l E s=>qas E s l=some cs
abbrev C2 (cs ds:List zA):Nat×Nat->qaU->ASt->Prop:=fun l E s=>qas E s l.1=some cs/\qas E s l.2=some ds
theorem qc6 {ι:Type}(b:Bool)(f:Nat)(l:ι->List zA)(hl:∀p,(l p).all qqs=true)(C:ι->qaU->ASt->Prop)(hC:∀p,Stab (C p))(t:Tm)(h:b=true->IC f l C t.v):IC 126 (fun p=>[bl b,.func f [] (l p)]) C (qcM (if b then some t else none)):=by
 refine IC.of (cf:=cf126) (np:=2) (args':=fun p=>[bl b,.func f [] (l p)]) (by kernel_rfl) (by kernel_rfl) (fun _=>rfl) (fun p=>by simp only[zap,qbG,qaY,hl p];rfl) (fun _=>rfl) hC (fun lo=>qaR lo _) ?_
 cases b with
 |false=>
  refine nothing_c.mono fun n h p E s _=>⟨_,s,(s126_eq _ _ _ _ _).trans ?_,qaN _⟩
  unfold s126
  have e:qcM none=.tuple [Tm.z.v,bl false]:=rfl
  simp only[h,e,qah,qaS,qau,zal,qaa,cond_true,zaa,qab,qan,qaw,qax,qam,qaB]
  rfl
 |true=>
  refine((h rfl).and (Ev.ge 1)).mono fun n ⟨h,hn⟩ p E s hc=>⟨_,s,(s126_eq _ _ _ _ _).trans ?_,qaN _⟩
  unfold s126
  have hcl:=h p E s hc
  simp only[qhS CP hn,zaQ,hcl,qah,qaS,qau,zak,qaa,cond_false,zaa,qab,qam,qaB]
  rfl
def _root_.Go.AI.Vw.p (x:Vw):zP:=.agg [.int .u8 x.t.k,.int .i64 x.t.n,.int .i64 x.t.m,.int .i64 x.t.i,.sl x.t.ks.length (Tm.cellsL x.t.ks),.sl x.sz.length (qaQ qcT x.sz),.int .i64 x.ar]
theorem qlM (f:Nat)(x:Vw):mf f [x.v] []=some (.p (.func f [x.p] [])):=rfl
theorem qw0 {n:Nat}(hn:1<=n)(E:qaU)(f:Nat)(x:Vw)(args:List zA)(s:ASt):clv (qag CP n E) (.p (.func f [x.p] [])) args s=cl (qag CP n E) f (x.v::args) s:=by
 obtain⟨m,rfl⟩:∃m,n=m+1:=⟨n-1,by omega⟩
 rw[qg1,qe0,qb0]
 simp only[zam,zbm,zbg,zaP,zaQ]
 rfl
theorem qdk (b:Bool)(f:Nat)(x:Vw)(t:Tm)(h:b=true->PC CP f [x.v] t.v):PC CP 126 [bl b,.p (.func f [x.p] [])] (qcM (if b then some t else none)):=by
 refine PC.of2 (cf:=cf126) (np:=2) (args':=[bl b,.p (.func f [x.p] [])]) (by kernel_rfl) (by kernel_rfl) rfl rfl rfl (fun lo=>qaR lo _) ?_
 cases b with
 |false=>
  refine nothing_c.mono fun n h E s=>⟨_,s,(s126_eq _ _ _ _ _).trans ?_,qaN _⟩
  unfold s126
  have e:qcM none=.tuple [Tm.z.v,bl false]:=rfl
  simp only[h,e,qah,qaS,qau,zal,qaa,cond_true,zaa,qab,qan,qaw,qax,qam,qaB]
  rfl
 |true=>
  refine((h rfl).and (Ev.ge 1)).mono fun n ⟨h,hn⟩ E s=>⟨_,s,(s126_eq _ _ _ _ _).trans ?_,qaN _⟩
  unfold s126
  simp only[qw0 hn,h E s,qah,qaS,qau,zak,qaa,cond_false,zaa,qab,qam,qaB]
  rfl
theorem qjm (n:Nat)(E:qaU)(f:Nat):(qag CP n E).pure f=qdB CP f:=by cases n<;>rfl
theorem qgr (js:List (Nat×Nat))(h:js.all (fun x=>Nat.blt 1 x.2&&qdB CP (x.2-2))=true)(n:Nat)(E:qaU)(tr:TrL)(l o k:Nat):okV (qag CP n E) tr (.ptr l o) k js=true:=by
 unfold okV
 rw[zaJ] at h⊢
 intro x hx
 unfold okJ
 rw[qjm,h x hx]
 rfl
abbrev RuC (f:Nat)(x:Sc)(t:Tm)(o:Option Tm):Prop:=PC CP f [(vw x t).v] (qcM o)
theorem RuC.of {f:Nat}{cf:CF}{x:Sc}{t:Tm}{o:Option Tm}(hcf:CP f=some cf)(hfl:flP cf 1=true)(hb:Ev fun n=>∀E s,∃s',qav cf (qag CP n E) n [(vw x t).v] s=some (qcM o,s')):RuC f x t o:=by
 refine PC.of2 (cf:=cf) (np:=1) (args':=[(vw x t).v]) hcf hfl rfl rfl rfl (fun lo=>qaR lo _) (hb.mono fun n h E s=>?_)
 obtain⟨s',e⟩:=h E s
 exact⟨_,s',e,qaN _⟩
theorem kf {n:Nat}{E:qaU}{l:List Tm}{u:Tm}{j:Nat}(h:l[j]? =some u)(s:ASt):ldH (qag CP n E) s (.elem (Tm.cellsL l) (j*5)) none=some (u8 u.k)/\ldH (qag CP n E) s (.elem (Tm.cellsL l) (j*5+1)) none=some (i64 u.n)/\ldH (qag CP n E) s (.elem (Tm.cellsL l) (j*5+4)) none=some (kv u.ks):=by
 refine⟨?_,?_,?_⟩
 ·have:=Tm.ld_field (qag CP n E) s h 0 (by omega)
  rw[zbj] at this
  rw[this];cases u;rfl
 ·rw[Tm.ld_field (qag CP n E) s h 1 (by omega)];cases u;rfl
 ·rw[Tm.ld_field (qag CP n E) s h 4 (by omega)];cases u;rfl
def asR (t:Tm):Option Tm:=if t.k=6 then(match t.ks with|[u]=>if qaI u then some (.num (u.n.tmod t.n) t.n) else none|_=>none) else none
theorem qw1 (x:Sc)(n0:Int)(u:Tm)(hn:n0≠0):IC 131 (fun l=>[.ptr l 0]) (C1 (vw x (.az n0 u)).c) (Tm.num (u.n.tmod n0) n0).v:=by
 refine IC.of (cf:=cf131) (np:=1) (args':=fun l=>[.ptr l 0]) (by kernel_rfl) (by kernel_rfl) (fun _=>rfl) (fun _=>rfl) (fun _=>rfl) (fun l=>Stab.at l _) (fun _=>rfl) ((qpl (u.n.tmod n0) n0).mono fun N h l E s hc=>⟨(Tm.num (u.n.tmod n0) n0).v,s,(s131_eq _ _ _ _).trans ?_,rfl⟩)
 have hk:[u][0]? =some u:=rfl
 obtain⟨i0,l0⟩:=qb5 (n:=N) (E:=E) hk
 have hf:=fun s=>(kf (n:=N) (E:=E) hk s).2.1
 have hc':qas (qag CP N E).E s l=some (vw x (.az n0 u)).c:=by rw[qa7];exact hc
 unfold s131
 simp only[ldP hc',zaF,i0,hf,qek _ _ _ hn,h,qah,qaS,qau,qkI,qcl,vwt,qad,zab,zaa,qab,qbv,Tm.n_mk,Tm.ks_mk]
theorem as_c (x:Sc)(t:Tm)(h:Sh t)(hn:t.k=6->t.n≠0):RuC 73 x t (asR t):=by
 by_cases hk:t.k=6
 ·cases h with
  |az n0 u=>
   have e:asR (.az n0 u)=if qaI u then some (.num (u.n.tmod n0) n0) else none:=rfl
   rw[e]
   refine RuC.of (cf:=cf73) (by kernel_rfl) (by kernel_rfl) (((qdo (vw x (.az n0 u)) 6).and ((qbT u).and (qc6 (qaI u) 131 (fun l=>[.ptr l 0]) (fun _=>rfl) (C1 (vw x (.az n0 u)).c) (fun l=>Stab.at l _) _ fun _=>qw1 x n0 u (hn rfl)))).mono fun N ⟨h1,h2,h3⟩ E s=>?_)
   obtain⟨i0,l0⟩:=qb5 (n:=N) (E:=E) (l:=[u]) (u:=u) rfl
   have hw:=fun(s:ASt)=>h3 s.next E (qak s (.cells (vw x (.az n0 u)).c)) (qaP _ _ _)
   refine⟨qak s (.cells (vw x (.az n0 u)).c),(s73_eq _ _ _ _).trans ?_⟩
   unfold s73 s73_0
   simp only[h1,i0,l0,h2,hw,qah,qaS,qau,qaH,qch,qcl,qdj,vwt,decide_true,qaa,cond_true,qaj,zaa,qab,qan,qaw,qax,qbd,qbx,cnd,qcR,Tm.k_mk,Tm.ks_mk,qaB]
  |_=>simp only[Tm.k] at hk;omega
 ·have e:asR t=none:=by unfold asR;rw[if_neg hk]
  rw[e]
  refine RuC.of (cf:=cf73) (by kernel_rfl) (by kernel_rfl) (((qdo (vw x t) 6).and (qc6 false 131 (fun l=>[.ptr l 0]) (fun _=>rfl) (C1 (vw x t).c) (fun l=>Stab.at l _) .z fun h=>nomatch h)).mono fun N ⟨h1,h3⟩ E s=>?_)
  have hw:=fun(s:ASt)=>h3 s.next E (qak s (.cells (vw x t).c)) (qaP _ _ _)
  refine⟨qak s (.cells (vw x t).c),(s73_eq _ _ _ _).trans ?_⟩
  unfold s73 s73_0
  simp only[h1,hw,hk,zai,if_false,qah,qaS,qau,qaH,qch,qcl,qdj,vwt,decide_false,qaa,cond_false,qaj,zaa,qab,qan,qaw,qax,qbd,qbx,cnd,qcR,qaB,zaG,zaD]
end Go.AI.Tryz
namespace Go.AI.Tryz
open Classical
structure Gd (x:Sc)(t:Tm):Prop where
 sh:Sh t
 b:x.B t.size
 sz:t.k≠16->t.k≠17->(szF x t).2=true
 ok:t.Ok
theorem Gd.l {x:Sc}{t:Tm}(g:Gd x t):x.ids.length<=1000000:=by have:=g.b.1;omega
theorem isSize_iff {n:Int}:qbe n=true↔1<=n/\n<=64:=by
 simp only[qbe,zag,za0,decide_eq_false_iff_not];omega
theorem isBelow_iff {n m:Int}:qbi n m=true↔0<=n/\n<m:=by
 simp only[qbi,zag,za0,decide_eq_false_iff_not,decide_eq_true_eq];omega
theorem qez {t:Tm}(h:Sh t)(hn:qaI t=true):∃n m,t=.num n m:=by
 have hk:t.k=1:=by simpa[qaI] using hn
 cases h with
 |num n m=>exact⟨n,m,rfl⟩
 |_=>simp only[Tm.k_mk] at hk;omega
theorem qdN {x:Sc}{t:Tm}(h:(szF x t).2=true)(hn:qaI t=true):0<=t.n/\t.n<t.m/\t.m<=64/\(szF x t).1=t.m:=by
 obtain⟨n,m,rfl⟩:=qez (qda h) hn
 rw[qdv] at h⊢
 simp only[zag,isSize_iff,isBelow_iff] at h
 exact⟨h.2.1,h.2.2,h.1.2,rfl⟩
def qgs (n m a b:Int):Int:=if n=1 then(a+b).tmod m else if n=2 then(a-b+m).tmod m else if n=3 then(a*b).tmod m else if n=4 then cond (decide (a=b)) 1 0 else cond (decide (a<b)) 1 0
theorem qrf (n m a b:Int)(hm:1<=m/\m<=64)(ha:0<=a/\a<64)(hb:0<=b/\b<64):PC CP 129 [i64 n,i64 m,i64 a,i64 b] (i64 (qgs n m a b)):=by
 refine PC.of2 (cf:=cf129) (np:=4) (args':=[i64 n,i64 m,i64 a,i64 b]) (by kernel_rfl) (by kernel_rfl) rfl rfl rfl (fun _=>rfl) (((qte (decide (a=b))).and (qte (decide (a<b)))).mono fun N ⟨h1,h2⟩ E s=>⟨i64 (qgs n m a b),s,(s129_eq _ _ _ _ _ _ _).trans ?_,rfl⟩)
 have hm0:m≠0:=by omega
 have hab:0<=a*b/\a*b<4096:=by
  obtain⟨ha1,ha2⟩:=ha
  obtain⟨hb1,hb2⟩:=hb
  refine⟨Int.mul_nonneg ha1 hb1,?_⟩
  have:a*b<=63*63:=Int.mul_le_mul (by omega) (by omega) hb1 (by omega)
  omega
 have w1:qbb .i64 (a+b)=a+b:=qbt (by omega) (by omega)
 have w2:qbb .i64 (a-b)=a-b:=qbt (by omega) (by omega)
 have w3:qbb .i64 (a-b+m)=a-b+m:=qbt (by omega) (by omega)
 have w4:qbb .i64 (a*b)=a*b:=qbt (by omega) (by omega)
 unfold s129 qgs
 by_cases n1:n=1
 ·simp only[n1,if_true,w1,qek _ _ _ hm0,qad,qaf,qap,qay,qa0,zaj,decide_true,decide_false,qaa,cond_true,cond_false,zab,zaa]
 ·by_cases n2:n=2
  ·simp only[n2,if_true,if_false,w2,w3,qek _ _ _ hm0,qad,qaf,qap,qay,qa0,zaj,decide_true,decide_false,qaa,cond_true,cond_false,zab,zaa]
  ·by_cases n3:n=3
   ·simp only[n3,if_true,if_false,qo0,w4,qek _ _ _ hm0,qad,qaf,qap,qay,qa0,zaj,decide_true,decide_false,qaa,cond_true,cond_false,zab,zaa]
   ·by_cases n4:n=4
    ·simp only[n4,if_true,if_false,h1,qad,qaf,qap,qay,qa0,zaj,decide_true,decide_false,qaa,cond_true,cond_false,zab,zaa,qab]
    ·simp only[n1,n2,n3,n4,if_false,h2,qad,qaf,qap,qay,qa0,decide_false,qaa,cond_false,zab,zaa,qab]
def opR (x:Sc)(t:Tm):Option Tm:=if t.k=5 then(match t.ks with|[a,b]=>if qaI a&&qaI b then some (.num (qgs t.n t.m a.n b.n) (szF x t).1) else none|_=>none) else none
theorem qw2 (x:Sc)(n m:Int)(a b:Tm)(g:Gd x (.op n m a b))(ha:qaI a=true)(hb:qaI b=true):IC 127 (fun l=>[.ptr l 0]) (C1 (vw x (.op n m a b)).c) (Tm.num (qgs n m a.n b.n) (szF x (.op n m a b)).1).v:=by
 have hsz:=g.sz (by simp[Tm.k]) (by simp[Tm.k])
 have hs2:=hsz
 rw[qeE] at hs2
 have hin:qbe m=true/\is2 (szF x a) m=true/\is2 (szF x b) m=true:=by
  split at hs2
  ·simpa only[zag] using hs2
  ·split at hs2
   ·simpa only[zag] using hs2
   ·cases hs2
 obtain⟨h1,h2,h3⟩:=hin
 rw[is2_iff] at h2 h3
 have ra:=qdN (x:=x) (by rw[h2]) ha
 have rb:=qdN (x:=x) (by rw[h3]) hb
 rw[h2] at ra
 rw[h3] at rb
 rw[isSize_iff] at h1
 refine IC.of (cf:=cf127) (np:=1) (args':=fun l=>[.ptr l 0]) (by kernel_rfl) (by kernel_rfl) (fun _=>rfl) (fun _=>rfl) (fun _=>rfl) (fun l=>Stab.at l _) (fun _=>rfl) (((qrf n m a.n b.n h1 (by omega) (by omega)).and ((qfN _ _ x (zan _) g.b hsz).and (qpl (qgs n m a.n b.n) (szF x (.op n m a b)).1))).mono fun N ⟨h1,h2,h3⟩ l E s hc=>⟨(Tm.num (qgs n m a.n b.n) (szF x (.op n m a b)).1).v,s,(s127_eq _ _ _ _).trans ?_,rfl⟩)
 obtain⟨i0,l0⟩:=qb5 (n:=N) (E:=E) (l:=[a,b]) (u:=a) rfl
 obtain⟨i1,l1⟩:=qdt (n:=N) (E:=E) (l:=[a,b]) (u:=b) rfl
 have f0:=fun s=>(kf (n:=N) (E:=E) (l:=[a,b]) (j:=0) (u:=a) rfl s).2.1
 have f1:=fun s=>(kf (n:=N) (E:=E) (l:=[a,b]) (j:=1) (u:=b) rfl s).2.1
 have hc':qas (qag CP N E).E s l=some (vw x (.op n m a b)).c:=by rw[qa7];exact hc
 unfold s127
 simp only[ldP hc',zaF,i0,f0,i1,f1,h1,h2,h3,qgr [(18,131)] (by kernel_rfl),zat,qah,qaS,qau,qch,qkI,qqr,qcl,vwt,zaa,qab,qbv,cnd,Tm.n_mk,Tm.m_mk,Tm.ks_mk]
theorem op_c (x:Sc)(t:Tm)(g:Gd x t):RuC 72 x t (opR x t):=by
 by_cases hk:t.k=5
 ·cases g.sh with
  |op n m a b=>
   have e:opR x (.op n m a b)=if qaI a&&qaI b then some (.num (qgs n m a.n b.n) (szF x (.op n m a b)).1) else none:=rfl
   rw[e]
   refine RuC.of (cf:=cf72) (by kernel_rfl) (by kernel_rfl) (((qdo (vw x (.op n m a b)) 5).and ((qbT a).and ((qbT b).and (qc6 (qaI a&&qaI b) 127 (fun l=>[.ptr l 0]) (fun _=>rfl) (C1 (vw x (.op n m a b)).c) (fun l=>Stab.at l _) _ fun h=>qw2 x n m a b g (by simp only[zag] at h;exact h.1) (by simp only[zag] at h;exact h.2))))).mono fun N ⟨h1,h2,h3,h4⟩ E s=>?_)
   obtain⟨i0,l0⟩:=qb5 (n:=N) (E:=E) (l:=[a,b]) (u:=a) rfl
   obtain⟨i1,l1⟩:=qdt (n:=N) (E:=E) (l:=[a,b]) (u:=b) rfl
   have hw:=fun(s:ASt)=>h4 s.next E (qak s (.cells (vw x (.op n m a b)).c)) (qaP _ _ _)
   refine⟨qak s (.cells (vw x (.op n m a b)).c),(s72_eq _ _ _ _).trans ?_⟩
   unfold s72 s72_0
   clear e
   generalize qaI a=qa at h2 hw⊢
   cases qa<;>simp only[zax,zau] at hw<;>simp only[h1,i0,l0,i1,l1,h2,h3,hw,zax,zau,qah,qaS,qau,qaH,qch,qcl,qdj,vwt,decide_true,qaa,cond_true,cond_false,qaj,zaa,qab,qan,qaw,qax,qbd,qbx,cnd,qcR,Tm.k_mk,Tm.ks_mk,qaB]
  |_=>simp only[Tm.k_mk] at hk;omega
 ·have e:opR x t=none:=by unfold opR;rw[if_neg hk]
  rw[e]
  refine RuC.of (cf:=cf72) (by kernel_rfl) (by kernel_rfl) (((qdo (vw x t) 5).and (qc6 false 127 (fun l=>[.ptr l 0]) (fun _=>rfl) (C1 (vw x t).c) (fun l=>Stab.at l _) .z fun h=>nomatch h)).mono fun N ⟨h1,h3⟩ E s=>?_)
  have hw:=fun(s:ASt)=>h3 s.next E (qak s (.cells (vw x t).c)) (qaP _ _ _)
  refine⟨qak s (.cells (vw x t).c),(s72_eq _ _ _ _).trans ?_⟩
  unfold s72 s72_0
  simp only[h1,hw,hk,zai,if_false,qah,qaS,qau,qaH,qch,qcl,qdj,vwt,decide_false,qaa,cond_false,qaj,zaa,qab,qan,qaw,qax,qbd,qbx,cnd,qcR,qaB,zaG,zaD]
def qhT (x:Sc)(t:Tm):Option Tm:=if t.k=6 then(match t.ks with|[u]=>if !qaI u&&decide ((szF x u).1=t.n) then some u else none|_=>none) else none
theorem qtg (x:Sc)(t:Tm)(g:Gd x t):RuC 74 x t (qhT x t):=by
 by_cases hk:t.k=6
 ·cases g.sh with
  |az n0 u=>
   have e:qhT x (.az n0 u)=if !qaI u&&decide ((szF x u).1=n0) then some u else none:=rfl
   rw[e]
   have hsz:=g.sz (by simp[Tm.k]) (by simp[Tm.k])
   rw[qeF,zag] at hsz
   have hlt:u.size<(Tm.az n0 u).size:=qa3 (by simp[Tm.ks])
   refine RuC.of (cf:=cf74) (by kernel_rfl) (by kernel_rfl) (((qdo (vw x (.az n0 u)) 6).and ((qbT u).and ((qdk (!qaI u&&decide ((szF x u).1=n0)) 133 (vw x (.az n0 u)) u fun _=>qfO _ u rfl).and ((qpj x (.az n0 u) u 0 rfl g.b (fun h=>nomatch h)).and (qfN _ u x (zan _) (qmM g.b hlt) hsz.1))))).mono fun N ⟨h1,h2,h3,h4,h5⟩ E s=>?_)
   obtain⟨i0,l0⟩:=qb5 (n:=N) (E:=E) (l:=[u]) (u:=u) rfl
   have h4':∀E s,cl (qag CP N E) 132 [(vw x (.az n0 u)).v,i64 0] s=some ((vw x u).v,s):=h4
   refine⟨s,(s74_eq _ _ _ _).trans ?_⟩
   unfold s74 s74_0
   clear e
   generalize qaI u=qa at h2 h3⊢
   cases qa<;>simp only[zak,zal,zax,zau] at h3<;>simp only[h1,i0,l0,h2,h3,h4',h5,qlM,zax,zau,qah,qaS,qau,qaH,qch,qkI,qcl,vwt,qad,qaf,decide_true,zak,zal,qaa,cond_true,cond_false,qaj,zab,zaa,qab,qan,qaw,qax,qam,Tm.k_mk,Tm.n_mk,Tm.ks_mk,qaB]
  |_=>simp only[Tm.k_mk] at hk;omega
 ·have e:qhT x t=none:=by unfold qhT;rw[if_neg hk]
  rw[e]
  refine RuC.of (cf:=cf74) (by kernel_rfl) (by kernel_rfl) (((qdo (vw x t) 6).and (qdk false 133 (vw x t) .z fun h=>nomatch h)).mono fun N ⟨h1,h3⟩ E s=>?_)
  refine⟨s,(s74_eq _ _ _ _).trans ?_⟩
  unfold s74 s74_0
  simp only[h1,h3,qlM,hk,zai,if_false,qah,qaS,qau,qaH,qch,qkI,qcl,vwt,decide_false,qaa,cond_false,qaj,zaa,qab,qan,qaw,qax,qaB,zaG,zaD]
end Go.AI.Tryz
namespace Go.AI
def qeL:List (zP×zP):=[(.int .i64 1,.int .i64 0),(.int .i64 2,.int .i64 0),(.int .i64 3,.int .i64 1)]
def qjB (n:Int):Option Int:=if n=1 then some 0 else if n=2 then some 0 else if n=3 then some 1 else none
theorem qui {e:Env}{s:ASt}{k y:Int}{es es':List (zP×zP)}(hp:qf0 es (.int .i64 k) (.int .i64 y)=some es'):ins e 1 (.map s.next) (i64 k) (i64 y) (qcp s es)=some (qaq,qcp s es'):=by
 unfold ins stV qcp
 have hy:zA.pureW (i64 y)=some (.int .i64 y):=rfl
 simp only[qaJ,Arg.ev,qar,qaK,za6,cond_true,qdG,hy,hp,zaa,zab]
theorem qsd (e:Env)(s:ASt):mkm e s=some (.map s.next,qcp s []):=rfl
theorem qrg (n:Int):qdz qeL (.int .i64 n)=some ((qjB n).map (zP.int .i64)):=by
 have h:∀k,qsv (.int .i64 n) (.int .i64 k)=some (decide (n=k)):=by
  intro k
  show some (ieq n k)=_
  rw[qcC]
 unfold qeL qjB
 simp only[qdz,h,zaa]
 by_cases h1:n=1
 ·simp only[h1,decide_true,cond_true,if_true];rfl
 ·by_cases h2:n=2
  ·simp only[h2,zaj,decide_true,decide_false,cond_true,cond_false,if_true,if_false];rfl
  ·by_cases h3:n=3
   ·simp only[h3,zaj,decide_true,decide_false,cond_true,cond_false,if_true,if_false];rfl
   ·simp only[h1,h2,h3,decide_false,cond_false,if_false];rfl
theorem qse {e:Env}{s:ASt}{n:Int}:lk e 1 (i64 0) true (.map s.next) (i64 n) (qcp s qeL)=some (.tuple [i64 ((qjB n).getD 0),bl (qjB n).isSome],qcp s qeL):=by
 unfold lk stV
 have hm:qcO e.E (qcp s qeL) s.next=some qeL:=qhh _ _ _
 simp only[qaJ,Arg.ev,hm,zaa,qdG,cond_true,qrg]
 cases qjB n<;>rfl
end Go.AI
namespace Go.AI.Tryz
open Classical
def qcU (t:Tm):Option Tm:=if t.k=5 then(match t.ks with|[a,b]=>if(qjB t.n).isSome&&(!qaI a&&(qaI b&&decide (b.n=(qjB t.n).getD 0))) then some a else none|_=>none) else none
theorem qpn (x:Sc)(t:Tm)(g:Gd x t):RuC 75 x t (qcU t):=by
 by_cases hk:t.k=5
 ·cases g.sh with
  |op n m a b=>
   have e:qcU (.op n m a b)=if(qjB n).isSome&&(!qaI a&&(qaI b&&decide (b.n=(qjB n).getD 0))) then some a else none:=rfl
   rw[e]
   refine RuC.of (cf:=cf75) (by kernel_rfl) (by kernel_rfl) (((qdo (vw x (.op n m a b)) 5).and ((qbT a).and ((qbT b).and (qdk ((qjB n).isSome&&(!qaI a&&(qaI b&&decide (b.n=(qjB n).getD 0)))) 133 (vw x (.op n m a b)) a fun _=>qfO _ a rfl)))).mono fun N ⟨h1,h2,h3,hw⟩ E s=>?_)
   obtain⟨i0,l0⟩:=qb5 (n:=N) (E:=E) (l:=[a,b]) (u:=a) rfl
   obtain⟨i1,l1⟩:=qdt (n:=N) (E:=E) (l:=[a,b]) (u:=b) rfl
   have f1:=fun s=>(kf (n:=N) (E:=E) (l:=[a,b]) (j:=1) (u:=b) rfl s).2.1
   have e1:ins (qag CP N E) 1 (.map s.next) (i64 1) (i64 0) (qcp s [])=some (qaq,qcp s [(.int .i64 1,.int .i64 0)]):=qui rfl
   have e2:ins (qag CP N E) 1 (.map s.next) (i64 2) (i64 0) (qcp s [(.int .i64 1,.int .i64 0)])=some (qaq,qcp s [(.int .i64 1,.int .i64 0),(.int .i64 2,.int .i64 0)]):=qui rfl
   have e3:ins (qag CP N E) 1 (.map s.next) (i64 3) (i64 1) (qcp s [(.int .i64 1,.int .i64 0),(.int .i64 2,.int .i64 0)])=some (qaq,qcp s qeL):=qui rfl
   refine⟨qcp s qeL,(s75_eq _ _ _ _).trans ?_⟩
   clear e
   unfold s75 s75_0
   generalize qaI a=qa at h2 hw⊢
   generalize qaI b=qb at h3 hw⊢
   cases hq:(qjB n).isSome<;>cases qa<;>cases qb<;>simp only[hq,zak,zal,zax,zau] at hw<;>simp only[qsd,e1,e2,e3,qse,hq,h1,i0,l0,i1,l1,f1,h2,h3,hw,qlM,zax,zau,zak,zal,qah,qaS,qau,qaH,qch,qkI,qcl,vwt,qad,qaf,decide_true,zak,zal,qaa,cond_true,cond_false,qaj,zab,zaa,qab,qan,qaw,qax,qam,Tm.k_mk,Tm.n_mk,Tm.ks_mk,qaB]
  |_=>simp only[Tm.k_mk] at hk;omega
 ·have e:qcU t=none:=by unfold qcU;rw[if_neg hk]
  rw[e]
  refine RuC.of (cf:=cf75) (by kernel_rfl) (by kernel_rfl) (((qdo (vw x t) 5).and (qdk false 133 (vw x t) .z fun h=>nomatch h)).mono fun N ⟨h1,hw⟩ E s=>?_)
  have e1:ins (qag CP N E) 1 (.map s.next) (i64 1) (i64 0) (qcp s [])=some (qaq,qcp s [(.int .i64 1,.int .i64 0)]):=qui rfl
  have e2:ins (qag CP N E) 1 (.map s.next) (i64 2) (i64 0) (qcp s [(.int .i64 1,.int .i64 0)])=some (qaq,qcp s [(.int .i64 1,.int .i64 0),(.int .i64 2,.int .i64 0)]):=qui rfl
  have e3:ins (qag CP N E) 1 (.map s.next) (i64 3) (i64 1) (qcp s [(.int .i64 1,.int .i64 0),(.int .i64 2,.int .i64 0)])=some (qaq,qcp s qeL):=qui rfl
  refine⟨qcp s qeL,(s75_eq _ _ _ _).trans ?_⟩
  unfold s75 s75_0
  simp only[qsd,e1,e2,e3,qse,h1,hw,hk,qlM,zai,if_false,qah,qaS,qau,qaH,qch,qkI,qcl,vwt,decide_false,qaa,cond_false,qaj,zaa,qab,qan,qaw,qax,qaB,zaG,zaD]
theorem qth (l:List Int)(hl:l.length<=1000000)(a:Int):PC CP 184 [iv l,i64 a] (i64 (qbN (fun b=>decide (a=b)) l 0)):=by
 refine PC.of2 (cf:=cf184) (np:=2) (args':=[iv l,i64 a]) (by kernel_rfl) (by kernel_rfl) rfl rfl rfl (fun _=>rfl) ((Ev.ge (l.length+1)).mono fun n hm E s=>⟨i64 (qbN (fun b=>decide (a=b)) l 0),s,(s184_eq _ _ _ _ _).trans ?_,rfl⟩)
 unfold s184 s184_0
 simp only[zaa,qbo]
 generalize hF:(fun(h5:zA->Res) (x4:zA)=>_)=F
 refine qcH _ F l.length (fun j L=>L (i64 (.ofNat j))) (fun j=>some (i64 (qbN (fun b=>decide (a=b)) l j),s)) (fun j L hj ih=>?_) (fun L=>?_) n 0 (za3 _) (by omega)
 ·subst hF
  have hk:l[j]? =some l[j]:=zah hj
  have hia:iaV 1 (iv l) (i64 (.ofNat j))=some (qaQ qcT l,j*1):=qbV (c:=qcT) (sz:=1) hj
  have hld:=qhb (c:=qcT) (sz:=1) (fun _=>rfl) (qag CP n E) s hk (by omega)
  simp only[of_lt.2 hj,hia,hld,qaO (show j<9223372036854775807 by omega),qad,qap,qay,decide_true,qaa,cond_true,zab,zaa,qab]
  have hx:(qcT l[j])[0]? =some (.int .i64 l[j]):=rfl
  simp only[hx,qad,qaf,qaa,zab,zaa]
  have hdr:l.drop j=l[j]::l.drop (j+1):=zaz hj
  by_cases h:a=l[j]
  ·have:qbN (fun b=>decide (a=b)) l j=.ofNat j:=by
    unfold qbN
    rw[hdr,List.findIdx?_cons]
    simp only[<-h,decide_true,if_true,zbj]
   simp only[<-h,this,decide_true,cond_true]
  ·have:qbN (fun b=>decide (a=b)) l j=qbN (fun b=>decide (a=b)) l (j+1):=by
    unfold qbN
    rw[hdr,List.findIdx?_cons]
    simp only[h,decide_false,zai,if_false]
    cases(l.drop (j+1)).findIdx? (fun b=>decide (a=b)) with
    |none=>rfl
    |some i=>simp only[zab,zaf];omega
   simp only[h,this,decide_false,cond_false]
   exact ih
 ·subst hF
  have h3:¬(Int.ofNat l.length<Int.ofNat l.length):=fun h=>zaZ _ (of_lt.1 h)
  simp only[h3,qad,qap,qay,decide_false,qaa,cond_false,zab,zaa]
  have:qbN (fun b=>decide (a=b)) l l.length= -1:=by
   unfold qbN
   rw[zbc];rfl
  rw[this]
theorem qnI (l:List Int)(hl:l.length<=1000000)(a:Int):PC CP 134 [iv l,i64 a] (bl (l.any fun b=>decide (a=b))):=by
 refine PC.of2 (cf:=cf134) (np:=2) (args':=[iv l,i64 a]) (by kernel_rfl) (by kernel_rfl) rfl (by first|rfl|(simp only[zap,qal,qb6];rfl)) (by first|rfl|(simp only[zam,qai,qb7];rfl)) (fun lo=>by first|rfl|exact qaM lo _|exact qaR lo _|exact qce lo _ _) (Ev.mono (qth l hl a) fun N h E s=>⟨bl (l.any fun b=>decide (a=b)),s,(s134_eq _ _ _ _ _).trans ?_,(by first|rfl|exact qai _|exact qaN _|exact qb1 _ _)⟩)
 unfold s134
 have:=qfK (qlC (fun b=>decide (a=b)) l)
 simp only[h,ge1,this,qad,zab,zaa,qab]
def qhU (t:Tm):Option Tm:=if t.k=5 then(match t.ks with|[a,b]=>if(decide (t.n=1)||(decide (t.n=3)||decide (t.n=4)))&&(qaI a&&!qaI b) then some (.op t.n t.m b a) else none|_=>none) else none
theorem qti (x:Sc)(n m:Int)(a b:Tm):IC 135 (fun l=>[.ptr l 0]) (C1 (vw x (.op n m a b)).c) (Tm.op n m b a).v:=by
 refine IC.of (cf:=cf135) (np:=1) (args':=fun l=>[.ptr l 0]) (by kernel_rfl) (by kernel_rfl) (fun _=>rfl) (fun _=>rfl) (fun _=>rfl) (fun l=>Stab.at l _) (fun _=>rfl) ((qva 5 n m [b,a]).mono fun N h l E s hc=>⟨(Tm.op n m b a).v,s,(s135_eq _ _ _ _).trans ?_,rfl⟩)
 have h':=qnH (E:=E) 5 n m [b,a] .full h s
 simp only[zar,zaC,zaF,Nat.reduceAdd] at h'
 obtain⟨i0,l0⟩:=qb5 (n:=N) (E:=E) (l:=[a,b]) (u:=a) rfl
 obtain⟨i1,l1⟩:=qdt (n:=N) (E:=E) (l:=[a,b]) (u:=b) rfl
 have hc':qas (qag CP N E).E s l=some (vw x (.op n m a b)).c:=by rw[qa7];exact hc
 unfold s135
 simp only[ldP hc',zaF,i0,l0,i1,l1,qre,h',qah,qaS,qau,qkI,qqr,qcl,vwt,zaa,qab,qbv,Tm.n_mk,Tm.m_mk,Tm.ks_mk]
theorem qvc (x:Sc)(t:Tm)(g:Gd x t):RuC 76 x t (qhU t):=by
 by_cases hk:t.k=5
 ·cases g.sh with
  |op n m a b=>
   have e:qhU (.op n m a b)=if(decide (n=1)||(decide (n=3)||decide (n=4)))&&(qaI a&&!qaI b) then some (.op n m b a) else none:=rfl
   rw[e]
   refine RuC.of (cf:=cf76) (by kernel_rfl) (by kernel_rfl) (((qdo (vw x (.op n m a b)) 5).and ((qbT a).and ((qbT b).and ((qnI [1,3,4] (by simp) n).and (qc6 ((decide (n=1)||(decide (n=3)||decide (n=4)))&&(qaI a&&!qaI b)) 135 (fun l=>[.ptr l 0]) (fun _=>rfl) (C1 (vw x (.op n m a b)).c) (fun l=>Stab.at l _) _ fun h=>qti x n m a b))))).mono fun N ⟨h1,h2,h3,h5,h4⟩ E s=>?_)
   obtain⟨i0,l0⟩:=qb5 (n:=N) (E:=E) (l:=[a,b]) (u:=a) rfl
   obtain⟨i1,l1⟩:=qdt (n:=N) (E:=E) (l:=[a,b]) (u:=b) rfl
   have hw:=fun(s:ASt)=>h4 s.next E (qak s (.cells (vw x (.op n m a b)).c)) (qaP _ _ _)
   have hms:ms 3 [.int .i64 0,.int .i64 0,.int .i64 0] [(0,none,.c (i64 1)),(1,none,.c (i64 3)),(2,none,.c (i64 4))]=some (.sl 3 [.int .i64 1,.int .i64 3,.int .i64 4] .full):=rfl
   have hct:∀s,cl (qag CP N E) 134 [.sl 3 [.int .i64 1,.int .i64 3,.int .i64 4] .full,i64 n] s=some (bl (decide (n=1)||(decide (n=3)||decide (n=4))),s):=by
    intro s
    rw[qfr (cf:=cf134) (by kernel_rfl) (by kernel_rfl)]
    have:=h5 E s
    simp only[List.any_cons,List.any_nil,Bool.or_false] at this
    exact this
   refine⟨qak s (.cells (vw x (.op n m a b)).c),(s76_eq _ _ _ _).trans ?_⟩
   unfold s76 s76_0
   clear e
   generalize (decide (n=1)||(decide (n=3)||decide (n=4)))=q at hct hw⊢
   generalize qaI a=qa at h2 hw⊢
   generalize qaI b=qb at h3 hw⊢
   cases q<;>cases qa<;>cases qb<;>simp only[zax,zau,zak,zal] at hw<;>simp only[h1,hms,hct,i0,l0,i1,l1,h2,h3,hw,zax,zau,qah,qaS,qau,qaH,qch,qkI,qcl,qdj,vwt,decide_true,zak,zal,qaa,cond_true,cond_false,qaj,zaa,qab,qan,qaw,qax,qam,qbd,qbx,cnd,qcR,Tm.k_mk,Tm.n_mk,Tm.ks_mk,qaB]
  |_=>simp only[Tm.k_mk] at hk;omega
 ·have e:qhU t=none:=by unfold qhU;rw[if_neg hk]
  rw[e]
  refine RuC.of (cf:=cf76) (by kernel_rfl) (by kernel_rfl) (((qdo (vw x t) 5).and (qc6 false 135 (fun l=>[.ptr l 0]) (fun _=>rfl) (C1 (vw x t).c) (fun l=>Stab.at l _) .z fun h=>nomatch h)).mono fun N ⟨h1,h3⟩ E s=>?_)
  have hw:=fun(s:ASt)=>h3 s.next E (qak s (.cells (vw x t).c)) (qaP _ _ _)
  refine⟨qak s (.cells (vw x t).c),(s76_eq _ _ _ _).trans ?_⟩
  unfold s76 s76_0
  simp only[h1,hw,hk,zai,if_false,qah,qaS,qau,qaH,qch,qkI,qdj,vwt,decide_false,qaa,cond_false,qaj,zaa,qab,qan,qaw,qax,qbd,qbx,cnd,qcR,qaB,zaG,zaD]
def ifR (t:Tm):Option Tm:=if t.k=8 then(match t.ks with|[c,a,b]=>if qaI c then some (if c.n=0 then b else a) else none|_=>none) else none
theorem qw3 (x:Sc)(c a b:Tm):IC 137 (fun l=>[.ptr l 0]) (C1 (vw x (.ite c a b)).c) (if c.n=0 then b else a).v:=by
 refine IC.of (cf:=cf137) (np:=1) (args':=fun l=>[.ptr l 0]) (by kernel_rfl) (by kernel_rfl) (fun _=>rfl) (fun _=>rfl) (fun _=>rfl) (fun l=>Stab.at l _) (fun lo=>qaM lo _) ((qte (decide (c.n=0))).mono fun N h l E s hc=>⟨(if c.n=0 then b else a).v,s,(s137_eq _ _ _ _).trans ?_,qai _⟩)
 obtain⟨i0,l0⟩:=qb5 (n:=N) (E:=E) (l:=[c,a,b]) (u:=c) rfl
 obtain⟨i1,l1⟩:=qdt (n:=N) (E:=E) (l:=[c,a,b]) (u:=a) rfl
 obtain⟨i2,l2⟩:=qnD (n:=N) (E:=E) (l:=[c,a,b]) (u:=b) rfl
 have f0:=fun s=>(kf (n:=N) (E:=E) (l:=[c,a,b]) (j:=0) (u:=c) rfl s).2.1
 have hc':qas (qag CP N E).E s l=some (vw x (.ite c a b)).c:=by rw[qa7];exact hc
 have w1:qbb .i64 (1+1)=2:=rfl
 have w0:qbb .i64 (1+0)=1:=rfl
 unfold s137
 by_cases hz:c.n=0
 ·simp only[hz,decide_true,cond_true] at h
  simp only[ldP hc',zaF,i0,f0,hz,h,if_true,w1,i2,l2,qgr [(10,140)] (by kernel_rfl),zat,qah,qaS,qau,qcl,vwt,qad,qaf,qay,decide_true,zab,zaa,qab,qbv,cnd,Tm.ks_mk]
 ·simp only[hz,decide_false,cond_false] at h
  simp only[ldP hc',zaF,i0,f0,hz,h,if_false,w0,i1,l1,qgr [(10,140)] (by kernel_rfl),zat,qah,qaS,qau,qcl,vwt,qad,qaf,qay,decide_false,zab,zaa,qab,qbv,cnd,Tm.ks_mk]
theorem if_c (x:Sc)(t:Tm)(g:Gd x t):RuC 77 x t (ifR t):=by
 by_cases hk:t.k=8
 ·cases g.sh with
  |ite c a b=>
   have e:ifR (.ite c a b)=if qaI c then some (if c.n=0 then b else a) else none:=rfl
   rw[e]
   refine RuC.of (cf:=cf77) (by kernel_rfl) (by kernel_rfl) (((qdo (vw x (.ite c a b)) 8).and ((qbT c).and (qc6 (qaI c) 137 (fun l=>[.ptr l 0]) (fun _=>rfl) (C1 (vw x (.ite c a b)).c) (fun l=>Stab.at l _) _ fun h=>qw3 x c a b))).mono fun N ⟨h1,h2,h4⟩ E s=>?_)
   obtain⟨i0,l0⟩:=qb5 (n:=N) (E:=E) (l:=[c,a,b]) (u:=c) rfl
   have hw:=fun(s:ASt)=>h4 s.next E (qak s (.cells (vw x (.ite c a b)).c)) (qaP _ _ _)
   refine⟨qak s (.cells (vw x (.ite c a b)).c),(s77_eq _ _ _ _).trans ?_⟩
   unfold s77 s77_0
   clear e
   simp only[h1,i0,l0,h2,hw,qah,qaS,qau,qaH,qch,qcl,qdj,vwt,decide_true,qaa,cond_true,qaj,zaa,qab,qan,qaw,qax,qbd,qbx,cnd,qcR,Tm.k_mk,Tm.ks_mk,qaB]
  |_=>simp only[Tm.k_mk] at hk;omega
 ·have e:ifR t=none:=by unfold ifR;rw[if_neg hk]
  rw[e]
  refine RuC.of (cf:=cf77) (by kernel_rfl) (by kernel_rfl) (((qdo (vw x t) 8).and (qc6 false 137 (fun l=>[.ptr l 0]) (fun _=>rfl) (C1 (vw x t).c) (fun l=>Stab.at l _) .z fun h=>nomatch h)).mono fun N ⟨h1,h3⟩ E s=>?_)
  have hw:=fun(s:ASt)=>h3 s.next E (qak s (.cells (vw x t).c)) (qaP _ _ _)
  refine⟨qak s (.cells (vw x t).c),(s77_eq _ _ _ _).trans ?_⟩
  unfold s77 s77_0
  simp only[h1,hw,hk,zai,if_false,qah,qaS,qau,qaH,qch,qcl,qdj,vwt,decide_false,qaa,cond_false,qaj,zaa,qab,qan,qaw,qax,qbd,qbx,cnd,qcR,qaB,zaG,zaD]
def qhV (t:Tm):Option Tm:=if t.k=8 then(match t.ks with|[c,a,b]=>if !qaI c&&decide (a=b) then some (.seq (.az 1 c) a) else none|_=>none) else none
theorem qtj (x:Sc)(c a b:Tm):IC 140 (fun l=>[.ptr l 0]) (C1 (vw x (.ite c a b)).c) (Tm.seq (.az 1 c) a).v:=by
 refine IC.of (cf:=cf140) (np:=1) (args':=fun l=>[.ptr l 0]) (by kernel_rfl) (by kernel_rfl) (fun _=>rfl) (fun _=>rfl) (fun _=>rfl) (fun l=>Stab.at l _) (fun lo=>qaM lo _) (((qwZ c).and (qpm (.az 1 c) a)).mono fun N ⟨h,h2⟩ l E s hc=>⟨(Tm.seq (.az 1 c) a).v,s,(s140_eq _ _ _ _).trans ?_,qai _⟩)
 obtain⟨i0,l0⟩:=qb5 (n:=N) (E:=E) (l:=[c,a,b]) (u:=c) rfl
 obtain⟨i1,l1⟩:=qdt (n:=N) (E:=E) (l:=[c,a,b]) (u:=a) rfl
 have hc':qas (qag CP N E).E s l=some (vw x (.ite c a b)).c:=by rw[qa7];exact hc
 unfold s140
 simp only[ldP hc',zaF,i0,l0,h,h2,i1,l1,qgr [(5,144)] (by kernel_rfl),zat,qah,qaS,qau,qcl,vwt,zaa,qab,qbv,cnd,Tm.ks_mk]
theorem qtk (x:Sc)(t:Tm)(g:Gd x t):RuC 78 x t (qhV t):=by
 by_cases hk:t.k=8
 ·cases g.sh with
  |ite c a b=>
   have e:qhV (.ite c a b)=if !qaI c&&decide (a=b) then some (.seq (.az 1 c) a) else none:=rfl
   rw[e]
   have oa:=g.ok.kids a (by simp[Tm.ks])
   have ob:=g.ok.kids b (by simp[Tm.ks])
   refine RuC.of (cf:=cf78) (by kernel_rfl) (by kernel_rfl) (((qdo (vw x (.ite c a b)) 8).and ((qbT c).and ((qjl a b oa ob).and (qc6 (!qaI c&&decide (a=b)) 140 (fun l=>[.ptr l 0]) (fun _=>rfl) (C1 (vw x (.ite c a b)).c) (fun l=>Stab.at l _) _ fun h=>qtj x c a b)))).mono fun N ⟨h1,h2,h3,h4⟩ E s=>?_)
   obtain⟨i0,l0⟩:=qb5 (n:=N) (E:=E) (l:=[c,a,b]) (u:=c) rfl
   obtain⟨i1,l1⟩:=qdt (n:=N) (E:=E) (l:=[c,a,b]) (u:=a) rfl
   obtain⟨i2,l2⟩:=qnD (n:=N) (E:=E) (l:=[c,a,b]) (u:=b) rfl
   have hw:=fun(s:ASt)=>h4 s.next E (qak s (.cells (vw x (.ite c a b)).c)) (qaP _ _ _)
   refine⟨qak s (.cells (vw x (.ite c a b)).c),(s78_eq _ _ _ _).trans ?_⟩
   unfold s78 s78_0
   clear e
   generalize qaI c=qa at h2 hw⊢
   cases qa<;>simp only[zax,zau,zak,zal] at hw<;>simp only[h1,i0,l0,i1,l1,i2,l2,h2,h3,hw,zax,zau,qah,qaS,qau,qaH,qch,qcl,qdj,vwt,decide_true,zak,zal,qaa,cond_true,cond_false,qaj,zaa,qab,qan,qaw,qax,qam,qbd,qbx,cnd,qcR,Tm.k_mk,Tm.ks_mk,qaB]
  |_=>simp only[Tm.k_mk] at hk;omega
 ·have e:qhV t=none:=by unfold qhV;rw[if_neg hk]
  rw[e]
  refine RuC.of (cf:=cf78) (by kernel_rfl) (by kernel_rfl) (((qdo (vw x t) 8).and (qc6 false 140 (fun l=>[.ptr l 0]) (fun _=>rfl) (C1 (vw x t).c) (fun l=>Stab.at l _) .z fun h=>nomatch h)).mono fun N ⟨h1,h3⟩ E s=>?_)
  have hw:=fun(s:ASt)=>h3 s.next E (qak s (.cells (vw x t).c)) (qaP _ _ _)
  refine⟨qak s (.cells (vw x t).c),(s78_eq _ _ _ _).trans ?_⟩
  unfold s78 s78_0
  simp only[h1,hw,hk,zai,if_false,qah,qaS,qau,qaH,qch,qcl,qdj,vwt,decide_false,qaa,cond_false,qaj,zaa,qab,qan,qaw,qax,qbd,qbx,cnd,qcR,qaB,zaG,zaD]
end Go.AI.Tryz
namespace Go.AI.Tryz
def qnJ (t:Tm):Option Tm:=if t.k=8 then(match t.ks with|[c,a,b]=>if c.k=8 then(match c.ks with|[p,q,r]=>if qbH q 0 2&&qbH r 1 2 then some (.ite p b a) else none|_=>none) else none|_=>none) else none
theorem qvd (x:Sc)(c a b p q r:Tm):IC 144 (fun l=>[.ptr l.1 0,.ptr l.2 0]) (C2 [kv [p,q,r]] (vw x (.ite c a b)).c) (Tm.ite p b a).v:=by
 refine IC.of (cf:=cf144) (np:=2) (args':=fun l=>[.ptr l.1 0,.ptr l.2 0]) (by kernel_rfl) (by kernel_rfl) (fun _=>rfl) (fun _=>rfl) (fun _=>rfl) (fun l=>(Stab.at l.1 _).and (Stab.at l.2 _)) (fun lo=>qaM lo _) ((qva 8 0 0 [p,b,a]).mono fun N h l E s hc=>⟨(Tm.ite p b a).v,s,(s144_eq _ _ _ _ _).trans ?_,qai _⟩)
 have h':=qnH (E:=E) 8 0 0 [p,b,a] .full h s
 simp only[zar,zaC,zaF,Nat.reduceAdd] at h'
 obtain⟨i0,l0⟩:=qb5 (n:=N) (E:=E) (l:=[p,q,r]) (u:=p) rfl
 obtain⟨i1,l1⟩:=qdt (n:=N) (E:=E) (l:=[c,a,b]) (u:=a) rfl
 obtain⟨i2,l2⟩:=qnD (n:=N) (E:=E) (l:=[c,a,b]) (u:=b) rfl
 have hc1:qas (qag CP N E).E s l.1=some [kv [p,q,r]]:=by rw[qa7];exact hc.1
 have hc2:qas (qag CP N E).E s l.2=some (vw x (.ite c a b)).c:=by rw[qa7];exact hc.2
 unfold s144
 simp only[ldP hc1,ldP hc2,qcG,zaF,i0,l0,i1,l1,i2,l2,qxz,h',qah,qaS,qau,qcl,vwt,zaa,qab,qbv,Tm.ks_mk]
theorem qw4 (x:Sc)(t:Tm)(g:Gd x t):RuC 79 x t (qnJ t):=by
 by_cases hk:t.k=8
 ·cases g.sh with
  |ite c a b=>
   have hsz:=g.sz (by simp[Tm.k]) (by simp[Tm.k])
   rw[qcv,zag] at hsz
   obtain⟨i0,l0⟩:True/\True:=⟨trivial,trivial⟩
   by_cases hc8:c.k=8
   ·have hc:=qda hsz.2
    cases hc with
    |ite p q r=>
     have e:qnJ (.ite (.ite p q r) a b)=if qbH q 0 2&&qbH r 1 2 then some (.ite p b a) else none:=rfl
     rw[e]
     refine RuC.of (cf:=cf79) (by kernel_rfl) (by kernel_rfl) (((qdo (vw x (.ite (.ite p q r) a b)) 8).and ((qjk q 0 2).and ((qjk r 1 2).and (qc6 (qbH q 0 2&&qbH r 1 2) 144 (fun l:Nat×Nat=>[.ptr l.1 0,.ptr l.2 0]) (fun _=>rfl) (C2 [kv [p,q,r]] (vw x (.ite (.ite p q r) a b)).c) (fun l=>(Stab.at l.1 _).and (Stab.at l.2 _)) _ fun h=>qvd x (.ite p q r) a b p q r)))).mono fun N ⟨h1,h2,h3,h4⟩ E s=>?_)
     obtain⟨i0,l0⟩:=qb5 (n:=N) (E:=E) (l:=[.ite p q r,a,b]) (u:=.ite p q r) rfl
     have f0:=fun s=>kf (n:=N) (E:=E) (l:=[.ite p q r,a,b]) (j:=0) (u:=.ite p q r) rfl s
     have f00:=fun s=>(f0 s).1
     have f04:=fun s=>(f0 s).2.2
     obtain⟨i1,l1⟩:=qdt (n:=N) (E:=E) (l:=[p,q,r]) (u:=q) rfl
     obtain⟨i2,l2⟩:=qnD (n:=N) (E:=E) (l:=[p,q,r]) (u:=r) rfl
     let s4:=qak s (.cells (vw x (.ite (.ite p q r) a b)).c)
     have hw:=h4 (s4.next,s.next) E (qak s4 (.cells [kv [p,q,r]])) ⟨qaP _ _ _,qdu _ _ _ _⟩
     have hst:stH (qak s4 (.cells [.sl 0 [] .full])) (.ptr s4.next 0) [kv [p,q,r]]=some (qak s4 (.cells [kv [p,q,r]])):=qlJ _ _ _ _ _ rfl rfl
     simp only[s4] at hw hst
     refine⟨qak s4 (.cells [kv [p,q,r]]),(s79_eq _ _ _ _).trans ?_⟩
     unfold s79 s79_1 s79_0
     clear e
     generalize qbH q 0 2=qa at h2 hw⊢
     generalize qbH r 1 2=qb at h3 hw⊢
     cases qa<;>cases qb<;>simp only[zax,zau] at hw<;>simp only[h1,i0,f00,f04,hst,i1,l1,i2,l2,h2,h3,hw,qcG,zax,zau,s4,qah,qaS,qau,qaH,qch,qcl,qdj,vwt,qad,qa6,decide_true,zak,qaa,cond_true,cond_false,qaj,zab,zaa,qab,qan,qaw,qax,qam,qbd,qbx,cnd,qcR,qrd,Tm.k_mk,Tm.ks_mk,qaB]
    |_=>simp only[Tm.k_mk] at hc8;omega
   ·have e:qnJ (.ite c a b)=none:=by simp only[qnJ,Tm.k_mk,Tm.ks_mk,if_true,hc8,if_false]
    rw[e]
    refine RuC.of (cf:=cf79) (by kernel_rfl) (by kernel_rfl) (((qdo (vw x (.ite c a b)) 8).and nothing_c).mono fun N ⟨h1,h3⟩ E s=>?_)
    obtain⟨i0,l0⟩:=qb5 (n:=N) (E:=E) (l:=[c,a,b]) (u:=c) rfl
    have f00:=fun s=>(kf (n:=N) (E:=E) (l:=[c,a,b]) (j:=0) (u:=c) rfl s).1
    refine⟨qak s (.cells (vw x (.ite c a b)).c),(s79_eq _ _ _ _).trans ?_⟩
    unfold s79 s79_1
    simp only[h1,h3,i0,f00,hc8,qah,qaS,qau,qaH,qch,qcl,qdj,vwt,qad,qa6,decide_true,decide_false,zak,zal,qaa,cond_true,cond_false,qaj,zab,zaa,qab,qan,qaw,qax,qam,qbd,cnd,qcR,Tm.k_mk,Tm.ks_mk,qaB,zaG,zaD]
  |_=>simp only[Tm.k_mk] at hk;omega
 ·have e:qnJ t=none:=by unfold qnJ;rw[if_neg hk]
  rw[e]
  refine RuC.of (cf:=cf79) (by kernel_rfl) (by kernel_rfl) (((qdo (vw x t) 8).and nothing_c).mono fun N ⟨h1,h3⟩ E s=>?_)
  refine⟨qak s (.cells (vw x t).c),(s79_eq _ _ _ _).trans ?_⟩
  unfold s79 s79_1
  simp only[h1,h3,hk,qah,qaS,qau,qaH,qch,qcl,qdj,vwt,decide_false,zal,qaa,cond_true,qaj,zaa,qab,qan,qaw,qax,qam,qbd,cnd,qcR,qaB,zaG,zaD]
def qhW (x:Sc)(t:Tm):Option Tm:=if t.k=8 then(match t.ks with|[c,a,b]=>if qbH a 1 2&&(qbH b 0 2&&(!qaI c&&decide ((szF x c).1=2))) then some c else none|_=>none) else none
theorem qve (x:Sc)(t:Tm)(g:Gd x t):RuC 80 x t (qhW x t):=by
 by_cases hk:t.k=8
 ·cases g.sh with
  |ite c a b=>
   have e:qhW x (.ite c a b)=if qbH a 1 2&&(qbH b 0 2&&(!qaI c&&decide ((szF x c).1=2))) then some c else none:=rfl
   rw[e]
   have hsz:=g.sz (by simp[Tm.k]) (by simp[Tm.k])
   rw[qcv,zag] at hsz
   have hlt:c.size<(Tm.ite c a b).size:=qa3 (by simp[Tm.ks])
   refine RuC.of (cf:=cf80) (by kernel_rfl) (by kernel_rfl) (((qdo (vw x (.ite c a b)) 8).and ((qbT c).and ((qjk a 1 2).and ((qjk b 0 2).and ((qdk (qbH a 1 2&&(qbH b 0 2&&(!qaI c&&decide ((szF x c).1=2)))) 133 (vw x (.ite c a b)) c fun _=>qfO _ c rfl).and ((qpj x (.ite c a b) c 0 rfl g.b (fun h=>nomatch h)).and (qfN _ c x (zan _) (qmM g.b hlt) hsz.2))))))).mono fun N ⟨h1,h2,ha,hb,h3,h4,h5⟩ E s=>?_)
   obtain⟨i0,l0⟩:=qb5 (n:=N) (E:=E) (l:=[c,a,b]) (u:=c) rfl
   obtain⟨i1,l1⟩:=qdt (n:=N) (E:=E) (l:=[c,a,b]) (u:=a) rfl
   obtain⟨i2,l2⟩:=qnD (n:=N) (E:=E) (l:=[c,a,b]) (u:=b) rfl
   have h4':∀E s,cl (qag CP N E) 132 [(vw x (.ite c a b)).v,i64 0] s=some ((vw x c).v,s):=h4
   refine⟨s,(s80_eq _ _ _ _).trans ?_⟩
   unfold s80 s80_0
   clear e
   generalize qaI c=qa at h2 h3⊢
   generalize qbH a 1 2=q1 at ha h3⊢
   generalize qbH b 0 2=q2 at hb h3⊢
   cases q1<;>cases q2<;>cases qa<;>simp only[zak,zal,zax,zau] at h3<;>simp only[h1,i0,l0,i1,l1,i2,l2,ha,hb,h2,h3,h4',h5,qlM,zax,zau,qah,qaS,qau,qaH,qch,qcl,vwt,qad,qaf,decide_true,zak,zal,qaa,cond_true,cond_false,qaj,zab,zaa,qab,qan,qaw,qax,qam,Tm.k_mk,Tm.ks_mk,qaB]
  |_=>simp only[Tm.k_mk] at hk;omega
 ·have e:qhW x t=none:=by unfold qhW;rw[if_neg hk]
  rw[e]
  refine RuC.of (cf:=cf80) (by kernel_rfl) (by kernel_rfl) (((qdo (vw x t) 8).and (qdk false 133 (vw x t) .z fun h=>nomatch h)).mono fun N ⟨h1,h3⟩ E s=>?_)
  refine⟨s,(s80_eq _ _ _ _).trans ?_⟩
  unfold s80 s80_0
  simp only[h1,h3,qlM,hk,zai,if_false,qah,qaS,qau,qaH,qch,qcl,vwt,decide_false,qaa,cond_false,qaj,zaa,qab,qan,qaw,qax,qaB,zaG,zaD]
def qhX (t:Tm):Option Tm:=if t.k=7 then(match t.ks with|[a,b]=>if qaI a then some b else none|_=>none) else none
theorem qvf (x:Sc)(t:Tm)(g:Gd x t):RuC 81 x t (qhX t):=by
 by_cases hk:t.k=7
 ·cases g.sh with
  |seq a b=>
   have e:qhX (.seq a b)=if qaI a then some b else none:=rfl
   rw[e]
   refine RuC.of (cf:=cf81) (by kernel_rfl) (by kernel_rfl) (((qdo (vw x (.seq a b)) 7).and ((qbT a).and (qdk (qaI a) 145 (vw x (.seq a b)) b fun _=>qmO _ b rfl))).mono fun N ⟨h1,h2,h3⟩ E s=>?_)
   obtain⟨i0,l0⟩:=qb5 (n:=N) (E:=E) (l:=[a,b]) (u:=a) rfl
   refine⟨s,(s81_eq _ _ _ _).trans ?_⟩
   unfold s81 s81_0
   clear e
   simp only[h1,i0,l0,h2,h3,qlM,qah,qaS,qau,qaH,qch,qcl,vwt,decide_true,qaa,cond_true,qaj,zaa,qab,qan,qaw,qax,Tm.k_mk,Tm.ks_mk,qaB]
  |_=>simp only[Tm.k_mk] at hk;omega
 ·have e:qhX t=none:=by unfold qhX;rw[if_neg hk]
  rw[e]
  refine RuC.of (cf:=cf81) (by kernel_rfl) (by kernel_rfl) (((qdo (vw x t) 7).and (qdk false 145 (vw x t) .z fun h=>nomatch h)).mono fun N ⟨h1,h3⟩ E s=>?_)
  refine⟨s,(s81_eq _ _ _ _).trans ?_⟩
  unfold s81 s81_0
  simp only[h1,h3,qlM,hk,zai,if_false,qah,qaS,qau,qaH,qch,qcl,vwt,decide_false,qaa,cond_false,qaj,zaa,qab,qan,qaw,qax,qaB,zaG,zaD]
def qfP (t:Tm):Option Tm:=if t.k=7 then(match t.ks with|[a,b]=>if a.k=7 then(match a.ks with|[p,q]=>some (.seq p (.seq q b))|_=>none) else none|_=>none) else none
theorem qvg (x:Sc)(t:Tm)(g:Gd x t):RuC 82 x t (qfP t):=by
 by_cases hk:t.k=7
 ·cases g.sh with
  |seq a b=>
   have hsz:=g.sz (by simp[Tm.k]) (by simp[Tm.k])
   rw[qbY,zag,is2_iff] at hsz
   by_cases ha7:a.k=7
   ·have ha:=qda (x:=x) (t:=a) (by rw[hsz.2])
    cases ha with
    |seq p q=>
     have e:qfP (.seq (.seq p q) b)=some (.seq p (.seq q b)):=rfl
     rw[e]
     refine RuC.of (cf:=cf82) (by kernel_rfl) (by kernel_rfl) (((qdo (vw x (.seq (.seq p q) b)) 7).and ((qpm q b).and (qpm p (.seq q b)))).mono fun N ⟨h1,h2,h3⟩ E s=>?_)
     obtain⟨i0,l0⟩:=qb5 (n:=N) (E:=E) (l:=[.seq p q,b]) (u:=.seq p q) rfl
     obtain⟨i1,l1⟩:=qdt (n:=N) (E:=E) (l:=[.seq p q,b]) (u:=b) rfl
     have f0:=fun s=>kf (n:=N) (E:=E) (l:=[.seq p q,b]) (j:=0) (u:=.seq p q) rfl s
     have f00:=fun s=>(f0 s).1
     have f04:=fun s=>(f0 s).2.2
     obtain⟨j0,m0⟩:=qb5 (n:=N) (E:=E) (l:=[p,q]) (u:=p) rfl
     obtain⟨j1,m1⟩:=qdt (n:=N) (E:=E) (l:=[p,q]) (u:=q) rfl
     refine⟨s,(s82_eq _ _ _ _).trans ?_⟩
     unfold s82 s82_0
     simp only[h1,i0,f00,f04,j0,m0,j1,m1,i1,l1,h2,h3,qah,qaS,qau,qaH,qch,qcl,vwt,qad,qa6,decide_true,zak,qaa,cond_true,cond_false,qaj,zab,zaa,qab,qam,Tm.k_mk,Tm.ks_mk,qaB,zaB,zbe]
    |_=>simp only[Tm.k_mk] at ha7;omega
   ·have e:qfP (.seq a b)=none:=by simp only[qfP,Tm.k_mk,Tm.ks_mk,if_true,ha7,if_false]
    rw[e]
    refine RuC.of (cf:=cf82) (by kernel_rfl) (by kernel_rfl) (((qdo (vw x (.seq a b)) 7).and nothing_c).mono fun N ⟨h1,h3⟩ E s=>?_)
    obtain⟨i0,l0⟩:=qb5 (n:=N) (E:=E) (l:=[a,b]) (u:=a) rfl
    have f00:=fun s=>(kf (n:=N) (E:=E) (l:=[a,b]) (j:=0) (u:=a) rfl s).1
    refine⟨s,(s82_eq _ _ _ _).trans ?_⟩
    unfold s82 s82_0
    simp only[h1,h3,i0,f00,ha7,qah,qaS,qau,qaH,qch,qcl,vwt,qad,qa6,decide_true,decide_false,zak,zal,qaa,cond_true,cond_false,qaj,zab,zaa,qab,qan,qaw,qax,qam,Tm.k_mk,Tm.ks_mk,qaB,zaG,zaD]
  |_=>simp only[Tm.k_mk] at hk;omega
 ·have e:qfP t=none:=by unfold qfP;rw[if_neg hk]
  rw[e]
  refine RuC.of (cf:=cf82) (by kernel_rfl) (by kernel_rfl) (((qdo (vw x t) 7).and nothing_c).mono fun N ⟨h1,h3⟩ E s=>?_)
  refine⟨s,(s82_eq _ _ _ _).trans ?_⟩
  unfold s82 s82_0
  simp only[h1,h3,hk,qah,qaS,qau,qaH,qch,qcl,vwt,decide_false,zal,qaa,cond_true,qaj,zaa,qab,qan,qaw,qax,qam,qaB,zaG,zaD]
def qfQ (x:Sc)(t:Tm):Option Tm:=if t.k=7 then(match t.ks with|[a,b]=>if a.k=12\/a.k=14 then(if !decide (b=.num 0 (szF x t).1) then some (.seq a (.num 0 (szF x t).1)) else none) else none|_=>none) else none
theorem qtl (x:Sc)(a b r:Tm):IC 146 (fun l=>[.ptr l.1 0,.ptr l.2 0]) (C2 (vw x (.seq a b)).c r.c) (Tm.seq a r).v:=by
 refine IC.of (cf:=cf146) (np:=2) (args':=fun l=>[.ptr l.1 0,.ptr l.2 0]) (by kernel_rfl) (by kernel_rfl) (fun _=>rfl) (fun _=>rfl) (fun _=>rfl) (fun l=>(Stab.at l.1 _).and (Stab.at l.2 _)) (fun lo=>qaM lo _) ((qpm a r).mono fun N h l E s hc=>⟨(Tm.seq a r).v,s,(s146_eq _ _ _ _ _).trans ?_,qai _⟩)
 obtain⟨i0,l0⟩:=qb5 (n:=N) (E:=E) (l:=[a,b]) (u:=a) rfl
 have hc1:qas (qag CP N E).E s l.1=some (vw x (.seq a b)).c:=by rw[qa7];exact hc.1
 have hc2:qas (qag CP N E).E s l.2=some r.c:=by rw[qa7];exact hc.2
 unfold s146
 simp only[ldP hc1,ldP hc2,zaF,i0,l0,h,qah,qaS,qau,qcl,vwt,zaa,qab,qbv,Tm.ks_mk]
theorem qsf (x:Sc)(t:Tm)(g:Gd x t)(hz:(Tm.num 0 (szF x t).1).Ok):RuC 83 x t (qfQ x t):=by
 by_cases hk:t.k=7
 ·cases g.sh with
  |seq a b=>
   have hsz:=g.sz (by simp[Tm.k]) (by simp[Tm.k])
   have ob:=g.ok.kids b (by simp[Tm.ks])
   by_cases ha:a.k=12\/a.k=14
   ·have e:qfQ x (.seq a b)=if !decide (b=.num 0 (szF x (.seq a b)).1) then some (.seq a (.num 0 (szF x (.seq a b)).1)) else none:=by simp only[qfQ,Tm.k_mk,Tm.ks_mk,if_true,ha]
    rw[e]
    clear e
    generalize hr:Tm.num 0 (szF x (.seq a b)).1=r at hz⊢
    refine RuC.of (cf:=cf83) (by kernel_rfl) (by kernel_rfl) (((qdo (vw x (.seq a b)) 7).and ((qfN _ _ x (zan _) g.b hsz).and ((qpl 0 (szF x (.seq a b)).1).and ((qjl b r ob hz).and (qc6 (!decide (b=r)) 146 (fun l:Nat×Nat=>[.ptr l.1 0,.ptr l.2 0]) (fun _=>rfl) (C2 (vw x (.seq a b)).c r.c) (fun l=>(Stab.at l.1 _).and (Stab.at l.2 _)) _ fun h=>qtl x a b r))))).mono fun N ⟨h1,h2,h3,h5,h4⟩ E s=>?_)
    rw[hr] at h3
    obtain⟨i0,l0⟩:=qb5 (n:=N) (E:=E) (l:=[a,b]) (u:=a) rfl
    obtain⟨i1,l1⟩:=qdt (n:=N) (E:=E) (l:=[a,b]) (u:=b) rfl
    have f00:=fun s=>(kf (n:=N) (E:=E) (l:=[a,b]) (j:=0) (u:=a) rfl s).1
    let s4:=qak s (.cells (vw x (.seq a b)).c)
    have hw:=h4 (s.next,s4.next) E (qak s4 (.cells r.c)) ⟨qdu _ _ _ _,qaP _ _ _⟩
    have hst:stH (qak s4 (.cells [u8 0,i64 0,i64 0,i64 0,.sl 0 [] .full])) (.ptr s4.next 0) r.c=some (qak s4 (.cells r.c)):=qlJ _ _ _ _ _ rfl rfl
    simp only[s4] at hw hst
    refine⟨qak s4 (.cells r.c),(s83_eq _ _ _ _).trans ?_⟩
    unfold s83 s83_0
    rcases ha with ha|ha
    ·simp only[h1,i0,f00,ha,h2,h3,hst,i1,l1,h5,hw,s4,qah,qaS,qau,qaH,qch,qcl,qdj,vwt,qad,qa6,zaj,decide_true,decide_false,zak,zal,qaa,cond_true,cond_false,qaj,zab,zaa,qab,qan,qaw,qax,qam,qbd,qbx,cnd,qcR,qsc,Tm.k_mk,Tm.ks_mk,qaB]
    ·simp only[h1,i0,f00,ha,h2,h3,hst,i1,l1,h5,hw,s4,qah,qaS,qau,qaH,qch,qcl,qdj,vwt,qad,qa6,zaj,decide_true,decide_false,zak,zal,qaa,cond_true,cond_false,qaj,zab,zaa,qab,qan,qaw,qax,qam,qbd,qbx,cnd,qcR,qsc,Tm.k_mk,Tm.ks_mk,qaB]
   ·have e:qfQ x (.seq a b)=none:=by simp only[qfQ,Tm.k_mk,Tm.ks_mk,if_true,ha,if_false]
    rw[e]
    refine RuC.of (cf:=cf83) (by kernel_rfl) (by kernel_rfl) (((qdo (vw x (.seq a b)) 7).and nothing_c).mono fun N ⟨h1,h3⟩ E s=>?_)
    obtain⟨i0,l0⟩:=qb5 (n:=N) (E:=E) (l:=[a,b]) (u:=a) rfl
    have f00:=fun s=>(kf (n:=N) (E:=E) (l:=[a,b]) (j:=0) (u:=a) rfl s).1
    have k1:¬a.k=12:=fun h=>ha (.inl h)
    have k2:¬a.k=14:=fun h=>ha (.inr h)
    refine⟨qak s (.cells (vw x (.seq a b)).c),(s83_eq _ _ _ _).trans ?_⟩
    unfold s83 s83_0
    simp only[h1,h3,i0,f00,k1,k2,qah,qaS,qau,qaH,qch,qcl,qdj,vwt,qad,qa6,decide_true,decide_false,zak,zal,qaa,cond_true,cond_false,qaj,zab,zaa,qab,qan,qaw,qax,qam,qbd,qbx,cnd,qcR,Tm.k_mk,Tm.ks_mk,qaB,zaG,zaD]
  |_=>simp only[Tm.k_mk] at hk;omega
 ·have e:qfQ x t=none:=by unfold qfQ;rw[if_neg hk]
  rw[e]
  refine RuC.of (cf:=cf83) (by kernel_rfl) (by kernel_rfl) (((qdo (vw x t) 7).and nothing_c).mono fun N ⟨h1,h3⟩ E s=>?_)
  refine⟨qak s (.cells (vw x t).c),(s83_eq _ _ _ _).trans ?_⟩
  unfold s83 s83_0
  simp only[h1,h3,hk,qah,qaS,qau,qaH,qch,qcl,qdj,vwt,decide_false,zal,qaa,cond_true,cond_false,qaj,zaa,qab,qan,qaw,qax,qam,qbd,qbx,cnd,qcR,qaB,zaG,zaD]
def qeM (t:Tm):Option Tm:=if t.k=9 then(match t.ks with|[c,b]=>if qaI c&&decide (c.n=0) then some (.num 0 1) else none|_=>none) else none
theorem loop1_c:PC CP 147 [] ((Tm.num 0 1).v):=by
 refine PC.of2 (cf:=cf147) (np:=0) (args':=[]) (by kernel_rfl) (by kernel_rfl) rfl (by first|rfl|(simp only[zap,qal,qb6];rfl)) (by first|rfl|(simp only[zam,qai,qb7];rfl)) (fun lo=>by first|rfl|exact qaM lo _|exact qaR lo _|exact qce lo _ _) (Ev.mono (qpl 0 1) fun N h E s=>⟨(Tm.num 0 1).v,s,(s147_eq _ _ _).trans ?_,(by first|rfl|exact qai _|exact qaN _|exact qb1 _ _)⟩)
 unfold s147
 simp only[h,qah,qaS,qau,zaa,qab]
theorem qpo (b:Bool):PC CP 126 [bl b,.p (.func 147 [] [])] (qcM (if b then some (Tm.num 0 1) else none)):=
 (qvb b 147 (fun _ _=>True) Stab.true (.num 0 1) fun _=>(loop1_c.and (Ev.ge 1)).mono fun n ⟨h,hn⟩ E s _=>by rw[qhi CP hn];exact h E s).mono fun n h E s=>h E s trivial
theorem qtm (x:Sc)(t:Tm)(g:Gd x t):RuC 84 x t (qeM t):=by
 by_cases hk:t.k=9
 ·cases g.sh with
  |whl c b=>
   have e:qeM (.whl c b)=if qaI c&&decide (c.n=0) then some (.num 0 1) else none:=rfl
   rw[e]
   refine RuC.of (cf:=cf84) (by kernel_rfl) (by kernel_rfl) (((qdo (vw x (.whl c b)) 9).and ((qbT c).and (qpo (qaI c&&decide (c.n=0))))).mono fun N ⟨h1,h2,h3⟩ E s=>?_)
   obtain⟨i0,l0⟩:=qb5 (n:=N) (E:=E) (l:=[c,b]) (u:=c) rfl
   have f01:=fun s=>(kf (n:=N) (E:=E) (l:=[c,b]) (j:=0) (u:=c) rfl s).2.1
   refine⟨s,(s84_eq _ _ _ _).trans ?_⟩
   unfold s84 s84_0
   clear e
   generalize qaI c=qa at h2 h3⊢
   cases qa<;>simp only[zax,zau] at h3<;>simp only[h1,i0,l0,f01,h2,h3,zax,zau,qah,qaS,qau,qaH,qch,qcl,vwt,qad,qaf,decide_true,qaa,cond_true,cond_false,qaj,zab,zaa,qab,qan,qaw,qax,Tm.k_mk,Tm.ks_mk,qaB]
  |_=>simp only[Tm.k_mk] at hk;omega
 ·have e:qeM t=none:=by unfold qeM;rw[if_neg hk]
  rw[e]
  refine RuC.of (cf:=cf84) (by kernel_rfl) (by kernel_rfl) (((qdo (vw x t) 9).and (qpo false)).mono fun N ⟨h1,h3⟩ E s=>?_)
  refine⟨s,(s84_eq _ _ _ _).trans ?_⟩
  unfold s84 s84_0
  simp only[h1,h3,hk,zai,if_false,qah,qaS,qau,qaH,qch,qcl,vwt,decide_false,qaa,cond_false,qaj,zaa,qab,qan,qaw,qax,qaB,zaG,zaD]
def qhY (t:Tm):Option Tm:=if t.k=11 then(match t.ks with|[u,w]=>if decide (u.k=12)&&decide (u.n=0) then some w else none|_=>none) else none
theorem qvh (x:Sc)(t:Tm)(g:Gd x t):RuC 90 x t (qhY t):=by
 by_cases hk:t.k=11
 ·cases g.sh with
  |lbl u w=>
   have e:qhY (.lbl u w)=if decide (u.k=12)&&decide (u.n=0) then some w else none:=rfl
   rw[e]
   refine RuC.of (cf:=cf90) (by kernel_rfl) (by kernel_rfl) (((qdo (vw x (.lbl u w)) 11).and (qdk (decide (u.k=12)&&decide (u.n=0)) 145 (vw x (.lbl u w)) w fun _=>qmO _ w rfl)).mono fun N ⟨h1,h3⟩ E s=>?_)
   obtain⟨i0,l0⟩:=qb5 (n:=N) (E:=E) (l:=[u,w]) (u:=u) rfl
   have f00:=fun s=>(kf (n:=N) (E:=E) (l:=[u,w]) (j:=0) (u:=u) rfl s).1
   have f01:=fun s=>(kf (n:=N) (E:=E) (l:=[u,w]) (j:=0) (u:=u) rfl s).2.1
   refine⟨s,(s90_eq _ _ _ _).trans ?_⟩
   unfold s90 s90_0
   clear e
   by_cases hu:u.k=12<;>simp only[hu,decide_true,decide_false,zax,zau] at h3<;>simp only[h1,i0,f00,f01,hu,h3,qlM,zax,zau,qah,qaS,qau,qaH,qch,qcl,vwt,qad,qaf,decide_true,decide_false,qaa,cond_true,cond_false,qaj,zab,zaa,qab,qan,qaw,qax,Tm.k_mk,Tm.ks_mk,qaB]
  |_=>simp only[Tm.k_mk] at hk;omega
 ·have e:qhY t=none:=by unfold qhY;rw[if_neg hk]
  rw[e]
  refine RuC.of (cf:=cf90) (by kernel_rfl) (by kernel_rfl) (((qdo (vw x t) 11).and (qdk false 145 (vw x t) .z fun h=>nomatch h)).mono fun N ⟨h1,h3⟩ E s=>?_)
  refine⟨s,(s90_eq _ _ _ _).trans ?_⟩
  unfold s90 s90_0
  simp only[h1,h3,qlM,hk,zai,if_false,qah,qaS,qau,qaH,qch,qcl,vwt,decide_false,qaa,cond_false,qaj,zaa,qab,qan,qaw,qax,qaB,zaG,zaD]
def qdE (t:Tm):Option Tm:=if t.k=13 then(match t.ks with|[a,b]=>if decide (a=b) then some a else none|_=>none) else none
theorem qrh (x:Sc)(t:Tm)(g:Gd x t):RuC 92 x t (qdE t):=by
 by_cases hk:t.k=13
 ·cases g.sh with
  |cho a b=>
   have e:qdE (.cho a b)=if decide (a=b) then some a else none:=rfl
   rw[e]
   have oa:=g.ok.kids a (by simp[Tm.ks])
   have ob:=g.ok.kids b (by simp[Tm.ks])
   refine RuC.of (cf:=cf92) (by kernel_rfl) (by kernel_rfl) (((qdo (vw x (.cho a b)) 13).and ((qjl a b oa ob).and (qdk (decide (a=b)) 133 (vw x (.cho a b)) a fun _=>qfO _ a rfl))).mono fun N ⟨h1,h2,h3⟩ E s=>?_)
   obtain⟨i0,l0⟩:=qb5 (n:=N) (E:=E) (l:=[a,b]) (u:=a) rfl
   obtain⟨i1,l1⟩:=qdt (n:=N) (E:=E) (l:=[a,b]) (u:=b) rfl
   refine⟨s,(s92_eq _ _ _ _).trans ?_⟩
   unfold s92 s92_0
   clear e
   simp only[h1,i0,l0,i1,l1,h2,h3,qlM,qah,qaS,qau,qaH,qch,qcl,vwt,decide_true,qaa,cond_true,qaj,zaa,qab,qan,qaw,qax,Tm.k_mk,Tm.ks_mk,qaB]
  |_=>simp only[Tm.k_mk] at hk;omega
 ·have e:qdE t=none:=by unfold qdE;rw[if_neg hk]
  rw[e]
  refine RuC.of (cf:=cf92) (by kernel_rfl) (by kernel_rfl) (((qdo (vw x t) 13).and (qdk false 133 (vw x t) .z fun h=>nomatch h)).mono fun N ⟨h1,h3⟩ E s=>?_)
  refine⟨s,(s92_eq _ _ _ _).trans ?_⟩
  unfold s92 s92_0
  simp only[h1,h3,qlM,hk,zai,if_false,qah,qaS,qau,qaH,qch,qcl,vwt,decide_false,qaa,cond_false,qaj,zaa,qab,qan,qaw,qax,qaB,zaG,zaD]
def qep (t:Tm):Option Tm:=if t.k=13 then(match t.ks with|[a,b]=>if a.k=14 then some b else if b.k=14 then some a else none|_=>none) else none
theorem qtn (x:Sc)(t:Tm)(g:Gd x t):RuC 93 x t (qep t):=by
 by_cases hk:t.k=13
 ·cases g.sh with
  |cho a b=>
   have e:qep (.cho a b)=if a.k=14 then some b else if decide (b.k=14) then some a else none:=by simp only[qep,Tm.k_mk,Tm.ks_mk,if_true,decide_eq_true_eq]
   rw[e]
   refine RuC.of (cf:=cf93) (by kernel_rfl) (by kernel_rfl) (((qdo (vw x (.cho a b)) 13).and (qdk (decide (b.k=14)) 133 (vw x (.cho a b)) a fun _=>qfO _ a rfl)).mono fun N ⟨h1,h3⟩ E s=>?_)
   obtain⟨i0,l0⟩:=qb5 (n:=N) (E:=E) (l:=[a,b]) (u:=a) rfl
   obtain⟨i1,l1⟩:=qdt (n:=N) (E:=E) (l:=[a,b]) (u:=b) rfl
   have f00:=fun s=>(kf (n:=N) (E:=E) (l:=[a,b]) (j:=0) (u:=a) rfl s).1
   have f10:=fun s=>(kf (n:=N) (E:=E) (l:=[a,b]) (j:=1) (u:=b) rfl s).1
   refine⟨s,(s93_eq _ _ _ _).trans ?_⟩
   unfold s93
   clear e
   by_cases hu:a.k=14<;>simp only[h1,i0,i1,l1,f00,f10,hu,h3,qlM,if_true,if_false,qah,qaS,qau,qaH,qch,qcl,vwt,qad,qaf,decide_true,decide_false,zak,qaa,cond_true,cond_false,zab,zaa,qab,qan,qaw,qax,qam,Tm.k_mk,Tm.ks_mk,qaB,zaB,zbe]
  |_=>simp only[Tm.k_mk] at hk;omega
 ·have e:qep t=none:=by unfold qep;rw[if_neg hk]
  rw[e]
  refine RuC.of (cf:=cf93) (by kernel_rfl) (by kernel_rfl) (((qdo (vw x t) 13).and nothing_c).mono fun N ⟨h1,h3⟩ E s=>?_)
  refine⟨s,(s93_eq _ _ _ _).trans ?_⟩
  unfold s93
  simp only[h1,h3,hk,qah,qaS,qau,qaH,qch,qcl,vwt,decide_false,zal,qaa,cond_true,zaa,qab,qan,qaw,qax,qam,qaB,zaG,zaD]
def qdO (x:Sc)(t:Tm):Option Tm:=if t.k=7 then(match t.ks with|[p,q]=>if p.k=4 then(match p.ks with|[u]=>if decide (q.k=3)&&(decide (p.i=q.i)&&(decide (x.top<p.i)&&qaI u)) then some (.seq p u) else none|_=>none) else none|_=>none) else none
theorem qri (i:Int)(u:Tm):IC 154 (fun l=>[.ptr l 0]) (C1 (Tm.put i u).c) (Tm.seq (.put i u) u).v:=by
 refine IC.of (cf:=cf154) (np:=1) (args':=fun l=>[.ptr l 0]) (by kernel_rfl) (by kernel_rfl) (fun _=>rfl) (fun _=>rfl) (fun _=>rfl) (fun l=>Stab.at l _) (fun lo=>qaM lo _) ((qpm (.put i u) u).mono fun N h l E s hc=>⟨(Tm.seq (.put i u) u).v,s,(s154_eq _ _ _ _).trans ?_,qai _⟩)
 obtain⟨i0,l0⟩:=qb5 (n:=N) (E:=E) (l:=[u]) (u:=u) rfl
 have hc':qas (qag CP N E).E s l=some (Tm.put i u).c:=by rw[qa7];exact hc
 unfold s154
 simp only[ldP hc',zaF,i0,l0,h,qah,qaS,qbj,qau,zaa,qab,qbv,Tm.ks_mk]
theorem qaz (l:List Tm):qa2 (some [kv l]) (some [kv l])=true:=by
 simp only[qa2,qdA,qfL,zat]
theorem qto (x:Sc)(t:Tm)(g:Gd x t):RuC 88 x t (qdO x t):=by
 by_cases hk:t.k=7
 ·cases g.sh with
  |seq p q=>
   have hsz:=g.sz (by simp[Tm.k]) (by simp[Tm.k])
   rw[qbY,zag,is2_iff] at hsz
   have hcut:cut (vw x (.seq p q)).c 4 1=some [kv [p,q]]:=rfl
   by_cases hp4:p.k=4
   ·have hp:=qda (x:=x) (t:=p) (by rw[hsz.2])
    cases hp with
    |put i u=>
     have e:qdO x (.seq (.put i u) q)=if decide (q.k=3)&&(decide (i=q.i)&&(decide (x.top<i)&&qaI u)) then some (.seq (.put i u) u) else none:=rfl
     rw[e]
     refine RuC.of (cf:=cf88) (by kernel_rfl) (by kernel_rfl) (((qdo (vw x (.seq (.put i u) q)) 7).and ((qbT u).and (qc6 (decide (q.k=3)&&(decide (i=q.i)&&(decide (x.top<i)&&qaI u))) 154 (fun l=>[.ptr l 0]) (fun _=>rfl) (C1 (Tm.put i u).c) (fun l=>Stab.at l _) _ fun h=>qri i u))).mono fun N ⟨h1,h2,h4⟩ E s=>?_)
     obtain⟨i0,l0⟩:=qb5 (n:=N) (E:=E) (l:=[.put i u,q]) (u:=.put i u) rfl
     obtain⟨i1,l1⟩:=qdt (n:=N) (E:=E) (l:=[.put i u,q]) (u:=q) rfl
     obtain⟨j0,m0⟩:=qb5 (n:=N) (E:=E) (l:=[u]) (u:=u) rfl
     have hw:=h4 s.next E (qak s (.cells (Tm.put i u).c)) (qaP _ _ _)
     have hst:stH (qak s (.cells [u8 0,i64 0,i64 0,i64 0,.sl 0 [] .full])) (.ptr s.next 0) (Tm.put i u).c=some (qak s (.cells (Tm.put i u).c)):=qlJ _ _ _ _ _ rfl rfl
     refine⟨qak s (.cells (Tm.put i u).c),(s88_eq _ _ _ _).trans ?_⟩
     unfold s88 s88_0
     clear e
     generalize qaI u=qa at h2 hw⊢
     by_cases q3:q.k=3
     ·by_cases qi:i=q.i
      ·by_cases qt:x.top<i
       ·simp only[q3,qt,decide_true,zax,←qi] at hw
        simp only[h1,i0,l0,i1,l1,hcut,qaz,zat,hst,j0,m0,q3,<-qi,qt,h2,hw,zax,qah,qaS,qba,qcJ,qbj,qau,qaH,qch,qcl,qph,vwt,quh,qad,qaf,qaC,decide_true,zak,qaa,cond_true,cond_false,qaj,zab,zaa,qab,qan,qaw,qax,qam,qbx,cnd,qcR,Tm.k_mk,Tm.i_mk,Tm.ks_mk,qaB]
       ·simp only[q3,qt,decide_true,decide_false,zax,zau,←qi] at hw
        simp only[h1,i0,l0,i1,l1,hcut,qaz,zat,hst,q3,<-qi,qt,hw,zax,zau,zai,if_false,qah,qaS,qba,qcJ,qbj,qau,qaH,qch,qcl,qph,vwt,quh,qad,qaf,qaC,decide_true,decide_false,zak,qaa,cond_true,cond_false,qaj,zab,zaa,qab,qan,qaw,qax,qam,qbx,cnd,qcR,Tm.k_mk,Tm.i_mk,Tm.ks_mk,qaB,zaG,zaD]
      ·simp only[q3,qi,decide_true,decide_false,zax,zau] at hw
       simp only[h1,i0,l0,i1,l1,hcut,qaz,zat,hst,q3,qi,hw,zax,zau,zai,if_false,qah,qaS,qba,qcJ,qbj,qau,qaH,qch,qcl,qph,vwt,quh,qad,qaf,qaC,decide_true,decide_false,zak,qaa,cond_true,cond_false,qaj,zab,zaa,qab,qan,qaw,qax,qam,qbx,cnd,qcR,Tm.k_mk,Tm.i_mk,Tm.ks_mk,qaB,zaG,zaD]
     ·simp only[q3,decide_false,zau] at hw
      simp only[h1,i0,l0,i1,l1,hcut,qaz,zat,hst,q3,hw,zau,zai,if_false,qah,qaS,qba,qcJ,qau,qaH,qch,qcl,qph,vwt,quh,qad,qaf,decide_true,decide_false,zak,qaa,cond_true,cond_false,qaj,zab,zaa,qab,qan,qaw,qax,qam,qbx,cnd,qcR,Tm.k_mk,Tm.ks_mk,qaB,zaG,zaD]
    |_=>simp only[Tm.k_mk] at hp4;omega
   ·have e:qdO x (.seq p q)=none:=by simp only[qdO,Tm.k_mk,Tm.ks_mk,if_true,hp4,if_false]
    rw[e]
    refine RuC.of (cf:=cf88) (by kernel_rfl) (by kernel_rfl) (((qdo (vw x (.seq p q)) 7).and (qc6 false 154 (fun l=>[.ptr l 0]) (fun _=>rfl) (C1 p.c) (fun l=>Stab.at l _) .z fun h=>nomatch h)).mono fun N ⟨h1,h4⟩ E s=>?_)
    obtain⟨i0,l0⟩:=qb5 (n:=N) (E:=E) (l:=[p,q]) (u:=p) rfl
    obtain⟨i1,l1⟩:=qdt (n:=N) (E:=E) (l:=[p,q]) (u:=q) rfl
    have hw:=h4 s.next E (qak s (.cells p.c)) (qaP _ _ _)
    have hst:stH (qak s (.cells [u8 0,i64 0,i64 0,i64 0,.sl 0 [] .full])) (.ptr s.next 0) p.c=some (qak s (.cells p.c)):=qlJ _ _ _ _ _ rfl rfl
    refine⟨qak s (.cells p.c),(s88_eq _ _ _ _).trans ?_⟩
    unfold s88 s88_0
    simp only[h1,i0,l0,i1,l1,hcut,qaz,zat,hst,hp4,hw,zai,if_false,qah,qaS,qba,qcJ,qbj,qau,qaH,qch,qcl,qph,vwt,quh,qad,qaf,qaC,decide_true,decide_false,zak,qaa,cond_false,qaj,zab,zaa,qab,qan,qaw,qax,qam,qbx,cnd,qcR,Tm.k_mk,Tm.ks_mk,qaB,zaG,zaD]
  |_=>simp only[Tm.k_mk] at hk;omega
 ·have e:qdO x t=none:=by unfold qdO;rw[if_neg hk]
  rw[e]
  refine RuC.of (cf:=cf88) (by kernel_rfl) (by kernel_rfl) (((qdo (vw x t) 7).and nothing_c).mono fun N ⟨h1,h3⟩ E s=>?_)
  refine⟨s,(s88_eq _ _ _ _).trans ?_⟩
  unfold s88 s88_0
  simp only[h1,h3,hk,qah,qaS,qau,qaH,qch,qcl,qph,vwt,quh,decide_false,zal,qaa,cond_true,qaj,zaa,qab,qan,qaw,qax,qam,qbx,cnd,qaB,zaG,zaD]
end Go.AI.Tryz
namespace Go.AI
def TF (s s':ASt):Prop:=s.ntok<=s'.ntok/\∀t,t<s.ntok->qar s'.toks t=qar s.toks t
theorem TF.refl (s:ASt):TF s s:=⟨zan _,fun _ _=>rfl⟩
theorem TF.trans {a b c:ASt}(h:TF a b)(k:TF b c):TF a c:=⟨zbf h.1 k.1,fun t ht=>(k.2 t (zaY ht h.1)).trans (h.2 t ht)⟩
theorem qhm {α:Type}(x:α):∀{l:List (Nat×α)} {n:Nat} {y:α},qar l n=some y->∃l',qaK l n x=some l'
 |[],n,y,h=>by cases h
 |(k,v)::r,n,y,h=>by
  simp only[qar,qaK] at h⊢
  cases hk:Nat.beq k n with
  |true=>exact⟨_,rfl⟩
  |false=>
   rw[hk] at h
   obtain⟨l',e⟩:=qhm x (l:=r) h
   exact⟨(k,v)::l',by rw[e];rfl⟩
theorem qpp (e:Env){sz b n t:Nat}{cs new:List zP}{y:zA}{s:ASt}(ht:qar s.toks t=some (n,sz))(hy:qdy y=some (1,new))(hl:new.length=sz)(hb:(n+1)*b<=140737488355328):
  ∃ts,ap e sz b (.sl n cs (.own t)) y s=some (.sl (n+1) (cs++new) (.own t),{s with toks:=ts})/\∀m,qar ts m=if m=t then some (n+1,sz) else qar s.toks m:=by
 obtain⟨ts,hts⟩:=qhm (n+1,sz) ht
 refine⟨ts,?_,qcB hts⟩
 unfold ap stV
 have h1:Nat.ble ((n+1)*b) 140737488355328=true:=ble_iff.2 hb
 have h2:Nat.beq new.length (1*sz)=true:=qaD (by omega)
 have h4:(Nat.beq n n&&Nat.beq sz sz)=true:=by rw[qaD rfl,qaD rfl];rfl
 simp only[qaJ,Arg.ev,hy,zaa,h1,h2,zat,cond_true,ht,h4,hts,zab]
 rfl
theorem qw5 (e:Env){sz b m:Nat}(s:ASt)(hb:m*b<=140737488355328):mk e sz b (i64 (.ofNat m)) s=some (.sl 0 [] (.own s.ntok),{s with ntok:=s.ntok+1,toks:=(s.ntok,0,sz)::s.toks}):=by
 unfold mk stV
 have h1:Nat.ble (m*b) 140737488355328=true:=ble_iff.2 hb
 simp only[qaJ,Arg.ev,qhF,zaa,h1,cond_true]
def Tm.with (t:Tm)(ks:List Tm):Tm:=.mk t.k t.n t.m t.i ks
section
variable {σ:Type}
def qfz (f:σ->Tm->Int->σ×Tm)(lab:Bool)(l:Int):Nat->σ->List Tm->σ×List Tm
 |_,x,[]=>(x,[])
 |i,x,k::r=>((qfz f lab l (i+1) (f x k (if lab&&decide (i=0) then l+1 else l)).1 r).1,(f x k (if lab&&decide (i=0) then l+1 else l)).2::(qfz f lab l (i+1) (f x k (if lab&&decide (i=0) then l+1 else l)).1 r).2)
def qc2 (by_:σ->Tm->Int->σ×(Tm×Bool)):Nat->σ->Tm->Int->σ×Tm
 |0,x,t,_=>(x,t)
 |d+1,x,t,l=>
  if(by_ x t l).2.2 then((qfz (qc2 by_ d) (decide ((by_ x t l).2.1.k=11)) l 0 (by_ x t l).1 (by_ x t l).2.1.ks).1,(by_ x t l).2.1.with (qfz (qc2 by_ d) (decide ((by_ x t l).2.1.k=11)) l 0 (by_ x t l).1 (by_ x t l).2.1.ks).2)
  else((by_ x t l).1,(by_ x t l).2.1)
end
end Go.AI
namespace Go.AI.Tryz
section
variable {σ:Type} (R:σ->qaU->ASt->Prop) (by_:σ->Tm->Int->σ×(Tm×Bool)) (fv:zA) (Ad:Tm->Prop)
def ByC (n d:Nat):Prop:=∀(x:σ) (E:qaU) (s:ASt) (t:Tm) (l:Int),t.size<=d->Ad t->0<=l->l+t.size<=1000000->R x E s->∃s',clv (qag CP n E) fv [t.v,i64 l] s=some (.tuple [(by_ x t l).2.1.v,bl (by_ x t l).2.2],s')/\R (by_ x t l).1 E s'/\TF s s'
def MapC (n d:Nat):Prop:=∀(x:σ) (E:qaU) (s:ASt) (t:Tm) (l:Int),t.size<=d->Ad t->0<=l->l+t.size<=1000000->R x E s->∃s',cl (qag CP n E) 108 [t.v,i64 l,fv] s=some ((qc2 by_ d x t l).2.v,s')/\R (qc2 by_ d x t l).1 E s'/\TF s s'
end
section
variable {σ κ:Type} {R:κ->σ->qaU->ASt->Prop} {by_:σ->Tm->Int->σ×(Tm×Bool)} {fv:κ->zA} {Ad:Tm->Prop}
theorem qdZ (hR:∀q x E s s',R q x E s->s'.heap=s.heap->s'.next=s.next->R q x E s')(ha:∀q,qbG (fv q)=true)(he:∀q,qaF (fv q)=fv q)
  (hk:∀x t l,Ad t->(by_ x t l).2.2=true->(by_ x t l).2.1.size<=t.size/\∀u∈(by_ x t l).2.1.ks,Ad u):
  ∀(d:Nat),(Ev fun n=>∀q,ByC (R q) by_ (fv q) Ad n d)->Ev fun n=>∀q,MapC (R q) by_ (fv q) Ad n d
 |0,_=>Ev.of fun n q x E s t l h=>by have:=Tm.size_pos t;omega
 |d+1,hby=>by
  have ih:=qdZ hR ha he hk d (hby.mono fun n h q x E s t l h1=>h q x E s t l (by omega))
  refine Ev.succ ((hby.and (ih.and (Ev.ge (d+3)))).mono fun n ⟨hb,hm,hn⟩ q x E s t l hsz hAd hl hls hr=>?_)
  suffices ∃r s',s108 (qag CP n E) n t.v (i64 l) (fv q) s=some (r,s')/\qaF r=(qc2 by_ (d+1) x t l).2.v/\R q (qc2 by_ (d+1) x t l).1 E s'/\TF s s' by
   obtain⟨r,s',e1,e2,e3,e4⟩:=this
   refine⟨s',?_,e3,e4⟩
   rw[qb0]
   exact qfn (cf:=cf108) (np:=3) (args':=[t.v,i64 l,fv q]) (v:=r) (by kernel_rfl) (by kernel_rfl) rfl (by simp only[zap,qal,ha q];rfl) (by simp only[zam,qai,he q];rfl) ((s108_eq _ _ _ _ _ _).trans e1) e2 (by rw[Tm.v_eq];rfl)
  obtain⟨s7,b1,b2,b3⟩:=hb q x E s t l hsz hAd hl hls hr
  unfold qc2
  have hkk:=hk x t l hAd
  generalize by_ x t l=qq at b1 b2 hkk⊢
  obtain⟨x',t',go⟩:=qq
  unfold s108
  cases go with
  |false=>
   simp only[b1,zai,if_false,qah,qaS,qau,qpg,zal,qaa,cond_true,zaa,qab,qan,qaw,qax,qam]
   exact⟨_,s7,rfl,qai _,b2,b3⟩
  |true=>
   obtain⟨hsz',hkAd⟩:=hkk rfl
   simp only at hsz' hkAd b1 b2
   have hlen:=Tm.len_le_size t'.ks
   have hts:=Tm.size_ks t'
   have hmk:=qw5 (qag CP n E) (sz:=5) (b:=56) (m:=t'.ks.length) s7 (by omega)
   simp only[b1,if_true,hmk,qah,qaS,qbj,qpg,zak,qaa,cond_false,zaa,qab,qan,qaw,qax,qam,qbo]
   unfold s108_2
   generalize hF:(fun(h30:zA->zA->Nat->List zA->List zA->List zA->ASt->Res) (x23 x24:zA) (g25:Nat) (c26 c27 c28:List zA) (s29:ASt)=>_)=F
   generalize hlab:decide (t'.k=11)=lab
   have key:∀(rest done:List Tm) (k j g:Nat) (c:List zA) (y:σ) (sj:ASt),done++rest=done++t'.ks.drop j->done.length=j->j+rest.length=t'.ks.length->rest.length<k->R q y E sj->TF s7 sj->s7.ntok<sj.ntok->qar sj.toks s7.ntok=some (j,5)->
     ∃r s',lp (fun _ _ _ _ _ _ _=>none) F k (.sl j (Tm.cellsL done) (.own s7.ntok)) (i64 (.ofNat j)) g t'.c [u8 0,i64 0,i64 0,i64 0,.sl 0 [] .full] c sj=some (r,s')/\qaF r=(t'.with (done++(qfz (qc2 by_ d) lab l j y rest).2)).v/\R q (qfz (qc2 by_ d) lab l j y rest).1 E s'/\TF s7 s':=by
    intro rest
    induction rest with
    |nil=>
     intro done k j g c y sj h1 h2 h3 hk hr htf hlt hta
     obtain⟨k,rfl⟩:∃m,k=m+1:=⟨k-1,by simp only[zaC] at hk;omega⟩
     rw[qa5]
     generalize lp _ F k=L
     subst hF
     simp only[zaC,zbj] at h3
     have hnl:¬(Int.ofNat j<Int.ofNat t'.ks.length):=fun h=>by have:=of_lt.1 h;omega
     have hcv:zA.cells none (.sl j (Tm.cellsL done) (.own s7.ntok))=some [.sl j (Tm.cellsL done) (.own s7.ntok)]:=rfl
     refine⟨.agg [u8 t'.k,i64 t'.n,i64 t'.m,i64 t'.i,.sl j (Tm.cellsL done) (.own s7.ntok)],sj,?_,?_,hr,htf⟩
     ·have ho:over t'.c 4 [.sl j (Tm.cellsL done) (.own s7.ntok)]=some [u8 t'.k,i64 t'.n,i64 t'.m,i64 t'.i,.sl j (Tm.cellsL done) (.own s7.ntok)]:=rfl
      simp only[hnl,hcv,ho,qaZ,qb4,qg7,qba,qad,qaf,qap,decide_false,qaa,cond_false,qaj,zab,zaa,cnd]
     ·simp only[qfz,zbg]
      subst h2
      rw[Tm.with,Tm.v_mk]
      rfl
    |cons u rest ih=>
     intro done k j g c y sj h1 h2 h3 hk hr htf hlt hta
     obtain⟨k,rfl⟩:∃m,k=m+1:=⟨k-1,by simp only[zar] at hk;omega⟩
     simp only[zar] at h3 hk
     have hj:j<t'.ks.length:=by omega
     have hdr:=zaz hj
     have h1':=List.append_cancel_left h1
     rw[hdr] at h1'
     injection h1' with hu hrest
     have hku:t'.ks[j]? =some u:=by rw[zah hj,hu]
     have hmem:u∈t'.ks:=zaN hku
     have hus:u.size<t'.size:=qa3 hmem
     have hia:iaV 5 (kv t'.ks) (i64 (.ofNat j))=some (Tm.cellsL t'.ks,j*5):=Tm.ia_kid hj
     have hld:∀s,ldH (qag CP n E) s (.elem (Tm.cellsL t'.ks) (j*5)) (some 5)=some u.v:=fun s=>Tm.ld_kid _ _ hku
     let l':Int:=if lab&&decide (j=0) then l+1 else l
     have hl':0<=l'/\l'+u.size<=1000000:=by
      simp only[l']
      split<;>omega
     obtain⟨s1,m1,m2,m3⟩:=hm q y E sj u l' (by omega) (hkAd u hmem) hl'.1 hl'.2 hr
     have hta1:qar s1.toks s7.ntok=some (j,5):=(m3.2 _ hlt).trans hta
     obtain⟨ts,a1,a2⟩:=qpp (qag CP n E) (b:=56) (cs:=Tm.cellsL done) (new:=(qc2 by_ d y u l').2.cells) (y:=.sl 1 (qc2 by_ d y u l').2.cells .full) hta1 rfl (Tm.len_cells _) (by omega)
     have hms:=qpk (qc2 by_ d y u l').2
     have hcl1:Tm.cellsL [(qc2 by_ d y u l').2]=(qc2 by_ d y u l').2.cells:=by simp only[Tm.cellsL,zbg]
     rw[hcl1] at hms
     have hcells:Tm.cellsL done++(qc2 by_ d y u l').2.cells=Tm.cellsL (done++[(qc2 by_ d y u l').2]):=by rw[Tm.cellsL_append,hcl1]
     rw[hcells] at a1
     have htf2:TF s7 {s1 with toks:=ts}:=by
      have h:=htf.trans m3
      refine⟨h.1,fun t ht=>?_⟩
      show qar ts t=_
      rw[a2,if_neg (by omega)]
      exact h.2 t ht
     have hnext:=ih (done++[(qc2 by_ d y u l').2]) k (j+1) (g+1) u.c (qc2 by_ d y u l').1 {s1 with toks:=ts} (by rw[hrest]) (by simp only[zay,zar,zaC,h2]) (by omega) (by omega) (hR q _ E s1 _ m2 rfl rfl) htf2 (by have:=m3.1;show _<s1.ntok;omega) (by show qar ts _=_;rw[a2,if_pos rfl])
     obtain⟨r,s',e1,e2,e3,e4⟩:=hnext
     rw[qa5]
     generalize lp _ F k=L at e1⊢
     subst hF
     refine⟨r,s',?_,?_,e3,e4⟩
     ·have hlw:qbb .i64 (l+1)=l+1:=qbt (by omega) (by omega)
      have hjw:=qaO (show j<9223372036854775807 by omega)
      unfold s108_1 s108_0
      by_cases h11:t'.k=11
      ·by_cases hj0:j=0
       ·have hl1:l'=l+1:=by
         simp only[l',<-hlab,h11,hj0,decide_true,zat,if_true]
        rw[hl1] at m1 hms a1 e1
        subst hj0
        have hz:(Int.ofNat 0:Int)=0:=rfl
        have hia0:iaV 5 (kv t'.ks) (i64 0)=some (Tm.cellsL t'.ks,0*5):=hia
        have hd0:(0:Int)<Int.ofNat t'.ks.length:=of_lt.2 hj
        have hw1:qbb .i64 (0+1)=1:=rfl
        have e1':L (.sl (0+1) (Tm.cellsL (done++[(qc2 by_ d y u (l+1)).2])) (.own s7.ntok)) (i64 1) (g+1) t'.c [u8 0,i64 0,i64 0,i64 0,.sl 0 [] .full] u.c {s1 with toks:=ts}=some (r,s'):=e1
        simp only[hz,hd0,hia0,hld,za6,h11,hlw,m1,hms,a1,hw1,qah,qaS,qba,qau,qad,qaf,qap,qay,decide_true,qaa,cond_true,qaj,zab,zaa,qab,cnd]
        exact e1'
       ·have hl1:l'=l:=by simp only[l',hj0,decide_false,zaS,zai,if_false]
        rw[hl1] at m1 hms a1 e1
        have hjz:¬((Int.ofNat j:Int)=0):=by simp only[zaf];omega
        simp only[of_lt.2 hj,hia,hld,za6,h11,hjz,m1,hms,a1,hjw,qah,qaS,qba,qau,qad,qaf,qap,qay,decide_true,decide_false,qaa,cond_true,cond_false,qaj,zab,zaa,qab,cnd]
        exact e1
      ·have hl1:l'=l:=by simp only[l',←hlab,h11,decide_false,zau,zai,if_false]
       rw[hl1] at m1 hms a1 e1
       simp only[of_lt.2 hj,hia,hld,za6,h11,m1,hms,a1,hjw,qah,qaS,qba,qau,qad,qaf,qap,qay,decide_true,decide_false,qaa,cond_true,cond_false,qaj,zab,zaa,qab,cnd]
       exact e1
     ·rw[e2]
      simp only[qfz,l',zaT,zaP,zaQ]
   have hfin:=key t'.ks [] n 0 0 [] x' {s7 with ntok:=s7.ntok+1,toks:=(s7.ntok,0,5)::s7.toks} rfl rfl (by omega) (by omega) (hR q _ E s7 _ b2 rfl rfl) ⟨Nat.le_succ _,fun t ht=>by
     show qar ((s7.ntok,0,5)::s7.toks) t=_
     rw[qao,if_neg (by omega)]⟩ (Nat.lt_succ_self _) (by show qar ((s7.ntok,0,5)::s7.toks) _=_;rw[qao,if_pos rfl])
   obtain⟨r,s',e1,e2,e3,e4⟩:=hfin
   exact⟨r,s',e1,e2,e3,b3.trans e4⟩
end
end Go.AI.Tryz
namespace Go.AI
mutual
def Tm.chg (g:Tm->Int->Tm):Tm->Int->Tm
 |.mk k n m i ks,l=> .mk (g (.mk k n m i ks) l).k (g (.mk k n m i ks) l).n (g (.mk k n m i ks) l).m (g (.mk k n m i ks) l).i (Tm.chgK g (decide (k=11)) l 0 ks)
def Tm.chgK (g:Tm->Int->Tm)(lab:Bool)(l:Int):Nat->List Tm->List Tm
 |_,[]=>[]
 |j,u::r=>Tm.chg g u (if lab&&decide (j=0) then l+1 else l)::Tm.chgK g lab l (j+1) r
end
mutual
def Tm.any (is:Tm->Int->Bool):Tm->Int->Bool
 |.mk k n m i ks,l=>is (.mk k n m i ks) l||Tm.anyK is (decide (k=11)) l 0 ks
def Tm.anyK (is:Tm->Int->Bool)(lab:Bool)(l:Int):Nat->List Tm->Bool
 |_,[]=>false
 |j,u::r=>Tm.any is u (if lab&&decide (j=0) then l+1 else l)||Tm.anyK is lab l (j+1) r
end
theorem Tm.chg_eq (g:Tm->Int->Tm)(t:Tm)(l:Int):t.chg g l=.mk (g t l).k (g t l).n (g t l).m (g t l).i (Tm.chgK g (decide (t.k=11)) l 0 t.ks):=by cases t;simp only[Tm.chg];rfl
theorem Tm.any_eq (is:Tm->Int->Bool)(t:Tm)(l:Int):t.any is l=(is t l||Tm.anyK is (decide (t.k=11)) l 0 t.ks):=by cases t;simp only[Tm.any];rfl
section
variable {σ:Type}
theorem qgt (g:Tm->Int->Tm)(hg:∀t l,(g t l).ks=t.ks/\(g t l).k=t.k):∀(d:Nat) (x:σ) (t:Tm) (l:Int),t.size<=d->qc2 (fun x t l=>(x,g t l,true)) d x t l=(x,t.chg g l)
 |0,x,t,l,h=>by have:=Tm.size_pos t;omega
 |d+1,x,t,l,h=>by
  have hk:∀(ks:List Tm) (j:Nat),(∀u∈ks,u.size<=d)->qfz (qc2 (fun x t l=>(x,g t l,true)) d) (decide (t.k=11)) l j x ks=(x,Tm.chgK g (decide (t.k=11)) l j ks):=by
   intro ks
   induction ks with
   |nil=>intro j _;rfl
   |cons u r ih=>
    intro j hu
    simp only[qfz,Tm.chgK]
    rw[qgt g hg d x u _ (hu u (zav ..)),ih (j+1) fun v hv=>hu v (zaw _ hv)]
  simp only[qc2,if_true]
  rw[(hg t l).1,(hg t l).2,hk t.ks 0 (fun u hu=>by
   have:=Tm.sizeL_mem hu
   rw[Tm.size_ks t] at h;omega),Tm.chg_eq]
  rfl
theorem qpq:∀(d:Nat) (t:Tm) (l:Int),t.size<=d->t.chg (fun t _=>t) l=t
 |0,t,l,h=>by have:=Tm.size_pos t;omega
 |d+1,t,l,h=>by
  have hk:∀(ks:List Tm) (j:Nat),(∀u∈ks,u.size<=d)->Tm.chgK (fun t _=>t) (decide (t.k=11)) l j ks=ks:=by
   intro ks
   induction ks with
   |nil=>intro j _;rfl
   |cons u r ih=>
    intro j hu
    simp only[Tm.chgK]
    rw[qpq d u _ (hu u (zav ..)),ih (j+1) fun v hv=>hu v (zaw _ hv)]
  rw[Tm.chg_eq,hk t.ks 0 (fun u hu=>by
   have:=Tm.sizeL_mem hu
   rw[Tm.size_ks t] at h;omega)]
  cases t;rfl
end
def qd0 {τ:Type}(is:τ->Tm->Int->τ×Bool):τ×Bool->Tm->Int->(τ×Bool)×(Tm×Bool):=fun x t l=>if x.2 then(x,t,false) else(is x.1 t l,t,!(is x.1 t l).2)
theorem qmP (is:Tm->Int->Bool):∀(d:Nat) (x:Unit×Bool) (t:Tm) (l:Int),t.size<=d->(qc2 (qd0 fun y t l=>(y,is t l)) d x t l).1=((),x.2||t.any is l)
 |0,x,t,l,h=>by have:=Tm.size_pos t;omega
 |d+1,x,t,l,h=>by
  obtain⟨⟨⟩,f⟩:=x
  have hk:∀(ks:List Tm) (j:Nat) (f:Bool),(∀u∈ks,u.size<=d)->(qfz (qc2 (qd0 fun y t l=>(y,is t l)) d) (decide (t.k=11)) l j ((),f) ks).1=((),f||Tm.anyK is (decide (t.k=11)) l j ks):=by
   intro ks
   induction ks with
   |nil=>intro j f _;simp only[qfz,Tm.anyK,Bool.or_false]
   |cons u r ih=>
    intro j f hu
    simp only[qfz,Tm.anyK]
    rw[qmP is d _ u _ (hu u (zav ..)),ih (j+1) _ fun v hv=>hu v (zaw _ hv)]
    simp only[Bool.or_assoc]
  rw[Tm.any_eq]
  unfold qc2
  cases f with
  |true=>simp only[qd0,if_true,zai,if_false,zbk]
  |false=>
   simp only[qd0,zai,if_false,za7]
   cases hi:is t l with
   |true=>simp only[zak,zai,if_false,zbk]
   |false=>
    simp only[zal,if_true,za7]
    rw[hk t.ks 0 false (fun u hu=>by
     have:=Tm.sizeL_mem hu
     rw[Tm.size_ks t] at h;omega)]
    simp only[za7]
end Go.AI
namespace Go.AI.Tryz
theorem qb1 (t:Tm)(b:Bool):qaF (.tuple [t.v,bl b])=.tuple [t.v,bl b]:=by rw[Tm.v_eq];rfl
theorem qce (lo:Nat)(t:Tm)(b:Bool):qeD lo (.tuple [t.v,bl b])=true:=by rw[Tm.v_eq];rfl
theorem qpr {n:Nat}(hn:1<=n)(E:qaU)(f:Nat)(a b:zA)(s:ASt):clv (qag CP n E) (.p (.func f [] [])) [a,b] s=cl (qag CP n E) f [a,b] s:=qhi CP hn E f [a,b] s
end Go.AI.Tryz
namespace Go.AI.Tryz
def UC {ι:Type}(f:Nat)(args:ι->List zA)(C:ι->qaU->ASt->Prop)(r:ι->zA):Prop:=Ev fun n=>∀p E s,C p E s->cl (qag CP n E) f (args p) s=some (r p,s)
theorem UC.of {ι:Type}{f np:Nat}{cf:CF}{args:ι->List zA}{C:ι->qaU->ASt->Prop}{r':ι->zA}(hcf:CP f=some cf)(hfl:flP cf np=true)(hl:∀p,(args p).length=np)(ha:∀p,(args p).all qbG=true)(hargs:∀p,(args p).map qaF=args p)(hC:∀p,Stab (C p))
  (hpl:∀p lo,qeD lo (r' p)=true)(hb:Ev fun n=>∀p E s,C p E s->∃r s',qav cf (qag CP n E) n (args p) s=some (r,s')/\qaF r=r' p):UC f args C r':=by
 refine Ev.succ (hb.mono fun n h p E s hc=>?_)
 obtain⟨r,s',h,hv⟩:=h p (s.heap++E) {s with heap:=[],toks:=[]} (hC p E s hc)
 rw[qb0]
 exact qg0 hcf hfl (hl p) (ha p) (hargs p) h hv (hpl p _)
theorem Stab.pure (P:Prop):Stab fun _ _=>P:=fun _ _ h=>h
abbrev Q:=Tm×Int
abbrev qa (p:Q):List zA:=[p.1.v,i64 p.2]
theorem qlN (p:Q):(qa p).all qbG=true:=by simp only[zap,qal];rfl
theorem qjn (p:Q):(qa p).map qaF=qa p:=by simp only[zam,qai];rfl
theorem qps {f:Nat}{g:Tm->Int->Tm×Bool}{Ad:Tm->Prop}{d:Nat}(h:UC f qa (fun p _ _=>Ad p.1/\0<=p.2) (fun p=> .tuple [(g p.1 p.2).1.v,bl (g p.1 p.2).2])):
  Ev fun n=>∀_:Unit,ByC (fun(_:Unit) _ _=>True) (fun x t l=>(x,g t l)) (.p (.func f [] [])) Ad n d:=by
 refine(h.and (Ev.ge 1)).mono fun n ⟨h,hn⟩ _ x E s t l h1 h2 h3 h4 _=>⟨s,?_,trivial,TF.refl s⟩
 rw[qpr hn]
 exact h (t,l) E s ⟨h2,h3⟩
theorem qkL:UC 109 qa (fun p _ _=>True/\0<=p.2) (fun p=> .tuple [p.1.v,bl true]):=by
 refine UC.of (cf:=cf109) (np:=2) (by kernel_rfl) (by kernel_rfl) (fun _=>rfl) qlN qjn (fun _=>Stab.pure _) (fun p lo=>qce lo _ _) (Ev.of fun n p E s _=>⟨.tuple [p.1.v,bl true],s,(s109_eq _ _ _ _ _).trans ?_,qb1 _ _⟩)
 unfold s109
 simp only[qah,qaS,qau,zaa]
end Go.AI.Tryz
namespace Go.AI.Tryz
theorem qrj (t:Tm)(hs:t.size<=900000):PC CP 60 [t.v] t.v:=by
 refine PC.of2 (cf:=cf60) (np:=1) (args':=[t.v]) (by kernel_rfl) (by kernel_rfl) rfl (by simp only[zap,qal];rfl) (by simp only[zam,qai];rfl) (fun lo=>qaM lo _)
  ((qdZ (R:=fun _ _ _ _=>True) (fv:=fun _=>_) (fun _ _ _ _ _ _ _ _=>trivial) (fun _=>rfl) (fun _=>rfl) (fun _ t _ _ _=>⟨zan _,fun _ _=>trivial⟩) t.size (qps (g:=fun t _=>(t,true)) (Ad:=fun _=>True) (d:=t.size) qkL)).mono fun n h E s=>?_)
 obtain⟨s',h',_,_⟩:=h () () E s t 0 (zan _) trivial (by omega) (by omega) trivial
 have e:=qgt (σ:=Unit) (fun t _=>t) (fun _ _=>⟨rfl,rfl⟩) t.size () t 0 (zan _)
 rw[show(fun(x:Unit) (t:Tm) (l:Int)=>(x,(fun(t:Tm) (_:Int)=>(t,true)) t l))=fun x t l=>(x,(fun(t:Tm) (_:Int)=>t) t l,true) from rfl,e,qpq t.size t 0 (zan _)] at h'
 refine⟨t.v,s',(s60_eq _ _ _ _).trans ?_,qai _⟩
 unfold s60
 simp only[h',qah,qaS,qau,zaa,qab]
def qcK (t:Tm)(l:Int):Tm:=if t.k=12/\l<t.n then .mk t.k (t.n-1) t.m t.i t.ks else t
theorem qhn (t:Tm)(l:Int):(qcK t l).ks=t.ks/\(qcK t l).k=t.k:=by unfold qcK;split<;>exact⟨rfl,rfl⟩
theorem qsg (t:Tm):Tm.mk t.k t.n t.m t.i t.ks=t:=by cases t;rfl
theorem qvi:UC 190 qa (fun p _ _=>p.1.Ok/\0<=p.2) (fun p=> .tuple [(qcK p.1 p.2).v,bl true]):=by
 refine UC.of (cf:=cf190) (np:=2) (by kernel_rfl) (by kernel_rfl) (fun _=>rfl) qlN qjn (fun _=>Stab.pure _) (fun p lo=>qce lo _ _) (Ev.of fun n p E s ⟨hok,hl⟩=>⟨.tuple [(qcK p.1 p.2).v,bl true],s,(s190_eq _ _ _ _ _).trans ?_,qb1 _ _⟩)
 obtain⟨t,l⟩:=p
 simp only at hok hl⊢
 unfold s190 s190_1 s190_0 qcK
 by_cases hk:t.k=12
 ·by_cases hn:l<t.n
  ·have hn2:t.n≤9223372036854775807:=by cases hok with|mk _ hn' _ _ _ _=>exact hn'.2
   have hw:qbb .i64 (t.n-1)=t.n-1:=qbt (by omega) (by omega)
   have ho:∀z:Int,over t.c 1 [i64 z]=some (Tm.mk t.k z t.m t.i t.ks).c:=fun _=>rfl
   simp only[hk,hn,hw,qbM,ho,and_self,if_true,qah,qaS,qba,qbX,qau,qad,qaf,qaC,qa0,decide_true,qaa,cond_true,cond_false,qaj,zab,zaa]
  ·simp only[hk,hn,and_false,if_false,qah,qaS,qba,qbX,qau,qad,qaf,qaC,qa0,decide_true,decide_false,qaa,cond_true,cond_false,qaj,zab,zaa]
 ·simp only[hk,false_and,if_false,qah,qaS,qba,qbX,qau,qad,qaf,qaC,qa0,decide_false,qaa,cond_false,qaj,zab,zaa]
def Tm.unl (t:Tm):Tm:=t.chg qcK 0
theorem qkM (t:Tm)(hok:t.Ok)(hs:t.size<=900000):PC CP 157 [t.v] (Tm.unl t).v:=by
 refine PC.of2 (cf:=cf157) (np:=1) (args':=[t.v]) (by kernel_rfl) (by kernel_rfl) rfl (by simp only[zap,qal];rfl) (by simp only[zam,qai];rfl) (fun lo=>qaM lo _)
  ((qdZ (R:=fun _ _ _ _=>True) (fv:=fun _=>_) (fun _ _ _ _ _ _ _ _=>trivial) (fun _=>rfl) (fun _=>rfl) (fun _ t l h _=>⟨by simp only[Tm.size_ks,(qhn t l).1];omega,fun u hu=>by rw[(qhn t l).1] at hu;exact h.kids u hu⟩) t.size (qps (g:=fun t l=>(qcK t l,true)) (Ad:=Tm.Ok) (d:=t.size) qvi)).mono fun n h E s=>?_)
 obtain⟨s',h',_,_⟩:=h () () E s t 0 (zan _) hok (by omega) (by omega) trivial
 have e:=qgt (σ:=Unit) qcK qhn t.size () t 0 (zan _)
 rw[e] at h'
 refine⟨(Tm.unl t).v,s',(s157_eq _ _ _ _).trans ?_,qai _⟩
 unfold s157
 have h'':cl (qag CP n E) 108 [t.v,i64 0,.p (.func 190 [] [])] s=some ((Tm.unl t).v,s'):=h'
 simp only[h'',qah,qaS,qau,zaa,qab]
end Go.AI.Tryz
namespace Go.AI.Tryz
theorem qaX {E:qaU}{s:ASt}{l:Nat}{cs:List zA}{H:qaU}(h:s.heap=(l,.cells cs)::H):qas E s l=some cs:=by
 unfold qas
 simp only[h,qar,qaD rfl,cond_true]
theorem beq_false {a b:Nat}(h:a≠b):Nat.beq a b=false:=by
 cases hb:Nat.beq a b with
 |false=>rfl
 |true=>exact absurd (beq_iff.1 hb) h
theorem qbB {E:qaU}{s:ASt}{l m:Nat}{o:zH}{H:qaU}(h:s.heap=(m,o)::H)(hne:m≠l):qas E s l=qas E {s with heap:=H} l:=by
 unfold qas
 simp only[h,qar,beq_false hne,cond_false]
theorem qrk {s:ASt}{l:Nat}{zs cs new:List zA}{H:qaU}{o:Nat}(h:s.heap=(l,.cells zs)::H)(ha:cs.all qaY=true)(ho:over zs o cs=some new):stH s (.ptr l o) cs=some {s with heap:=(l,.cells new)::H}:=by
 unfold stH qbL
 simp only[h,qar,qaK,qaD rfl,cond_true,ha,ho,zaa,zab]
section
variable {ι τ:Type} {isv:ι->zA} {is:τ->Tm->Int->τ×Bool} {C:ι->τ->qaU->qaU->Nat->Prop} {Ad:Tm->Prop}
def IsC (isv:ι->zA)(is:τ->Tm->Int->τ×Bool)(C:ι->τ->qaU->qaU->Nat->Prop)(Ad:Tm->Prop)(n d:Nat):Prop:=
 ∀p y E H N a b s t l,t.size<=d->Ad t->0<=l->s.heap=(N+1,a)::(N,b)::H->s.next=N+2->C p y E H N->
  ∃s' H',clv (qag CP n E) (isv p) [t.v,i64 l] s=some (bl (is y t l).2,s')/\s'.heap=(N+1,a)::(N,b)::H'/\s'.next=N+2/\C p (is y t l).1 E H' N/\TF s s'
def qw6 (isv:ι->zA)(C:ι->τ->qaU->qaU->Nat->Prop)(p:ι)(N:Nat):τ×Bool->qaU->ASt->Prop:=fun x E s=>
 ∃H,s.heap=(N+1,.cells [bl x.2])::(N,.cells [isv p])::H/\s.next=N+2/\C p x.1 E H N
theorem qmQ {n:Nat}{E:qaU}{s:ASt}{l:Nat}{b:Bool}(h:qas (qag CP n E).E s l=some [bl b])(L1 L2 L3 L4 L5 L6:LL):
  okV (qag CP n E) [(L1,s),(L2,s),(L3,s),(L4,s),(L5,s),(L6,s)] (.ptr l 0) 1 [(3,0)]=true:=by
 have hl:loadFrom (qag CP n E).E .nil s (.ptr l 0) 1=some [bl b]:=by
  simp only[loadFrom,h,zaa]
  rfl
 have h4:∀L,qlq (qag CP n E) L s (.ptr l 0) 1=some [bl b]:=fun L=>hl
 have e3:qe9 [(L1,s),(L2,s),(L3,s),(L4,s),(L5,s),(L6,s)] 3=some (L4,s):=rfl
 have e4:qe9 [(L1,s),(L2,s),(L3,s),(L4,s),(L5,s),(L6,s)] (3+1)=some (L5,s):=rfl
 have hs:qa2 (some [bl b]) (some [bl b])=true:=by simp only[qa2,qdA,qfL,zat]
 simp only[okV,zap,List.all_nil,okJ,e3,e4,h4,hs,Bool.or_true,zat]
theorem qtp (ha:∀p,qaY (isv p)=true)(hcell:∀p,ldL [isv p] 0 none=some (isv p))(d:Nat)(his:Ev fun n=>IsC isv is C Ad n d):Ev fun n=>∀p N,ByC (qw6 isv C p N) (qd0 is) (.func 191 [] [.ptr (N+1) 0,.ptr N 0]) Ad n d:=by
 refine Ev.succ ((his.and (Ev.ge 1)).mono fun n ⟨h,hn⟩ p N x E s t l h1 h2 h3 h4 ⟨H,r1,r2,r3⟩=>?_)
 rw[qhS CP (by omega)]
 simp only[zaQ,zaP]
 have hc7:∀m E',qas (qag CP m E').E s (N+1)=some [bl x.2]:=fun m E'=>qaX r1
 have hc5:∀m E',qas (qag CP m E').E s N=some [isv p]:=fun m E'=>by
  rw[qbB r1 (by omega)]
  exact qaX (s:={s with heap:=(N,.cells [isv p])::H}) rfl
 suffices ∃s',s191 (qag CP n E) n t.v (i64 l) (.ptr (N+1) 0) (.ptr N 0) s=some (.tuple [(qd0 is x t l).2.1.v,bl (qd0 is x t l).2.2],s')/\qw6 isv C p N (qd0 is x t l).1 E s'/\TF s s' by
  obtain⟨s',e1,e2,e3⟩:=this
  refine⟨s',?_,e2,e3⟩
  rw[qb0]
  exact qfn (cf:=cf191) (np:=4) (args':=[t.v,i64 l,.ptr (N+1) 0,.ptr N 0]) (by kernel_rfl) (by kernel_rfl) rfl (by simp only[zap,qal];rfl) (by simp only[zam,qai];rfl) ((s191_eq _ _ _ _ _ _ _).trans e1) (qb1 _ _) (by rw[Tm.v_eq];rfl)
 obtain⟨y,f⟩:=x
 unfold s191 s191_0 qd0
 cases f with
 |true=>
  have hst:=qrk (cs:=[bl true]) (new:=[bl true]) (o:=0) r1 rfl rfl
  have hs:({s with heap:=(N+1,.cells [bl true])::(N,.cells [isv p])::H}:ASt)=s:=by rw[<-r1]
  rw[hs] at hst
  refine⟨s,?_,⟨H,r1,r2,r3⟩,TF.refl s⟩
  simp only[ldP (hc7 n E),qcG,qcd,hst,qmQ (hc7 n E),za8,if_true,qah,qaS,qau,zak,qaa,cond_true,qaj,zaa,qam,cnd]
 |false=>
  obtain⟨s',H',i1,i2,i3,i4,i5⟩:=h p y E H N (.cells [bl false]) (.cells [isv p]) s t l h1 h2 h3 r1 r2 r3
  have hst:=qrk (cs:=[bl (is y t l).2]) (new:=[bl (is y t l).2]) (o:=0) i2 rfl rfl
  have hc':qas (qag CP n E).E {s' with heap:=(N+1,.cells [bl (is y t l).2])::(N,.cells [isv p])::H'} (N+1)=some [bl (is y t l).2]:=qaX rfl
  refine⟨{s' with heap:=(N+1,.cells [bl (is y t l).2])::(N,.cells [isv p])::H'},?_,⟨H',rfl,i3,i4⟩,i5⟩
  have hok:=qmQ hc'
  simp only[ldP (hc7 n E),ldP (hc5 n E),ldP hc',qcG,hcell p,i1,qcd,hst,hok,za8,zai,if_false,qah,qaS,qau,qaa,cond_false,qaj,zaa,qab,qam,cnd]
theorem qho (ha:∀p,qaY (isv p)=true)(hw:∀p,qbG (isv p)=true)(hce:∀p,zA.cells none (isv p)=some [isv p])(he:∀p,qaF (isv p)=isv p)(t:Tm)(hs:t.size<=900000)(hAd:Ad t)(hk:∀t,Ad t->∀u∈t.ks,Ad u)(his:Ev fun n=>IsC isv is C Ad n t.size)
  (hC:∀p y E H N N',C p y E H N->N<=N'->C p y E H N'):
  Ev fun n=>∀p y E s,C p y E s.heap s.next->∃s' H',cl (qag CP n E) 159 [t.v,isv p] s=some (bl (qc2 (qd0 is) t.size (y,false) t 0).1.2,s')/\s'.heap=(s.next+1,.cells [bl (qc2 (qd0 is) t.size (y,false) t 0).1.2])::(s.next,.cells [isv p])::H'/\C p (qc2 (qd0 is) t.size (y,false) t 0).1.1 E H' s.next/\s'.next=s.next+2/\TF s s':=by
 have hcell:∀p,ldL [isv p] 0 none=some (isv p):=fun p=>rfl
 have hby:=qtp ha hcell t.size his
 have hmap:=qdZ (κ:=ι×Nat) (R:=fun q=>qw6 isv C q.1 q.2) (fv:=fun q=> .func 191 [] [.ptr (q.2+1) 0,.ptr q.2 0]) (by_:=qd0 is) (Ad:=Ad) (fun q x E s s' ⟨H,r1,r2,r3⟩ e1 e2=>⟨H,by rw[e1];exact r1,by rw[e2];exact r2,r3⟩) (fun _=>rfl) (fun _=>rfl)
  (fun x t l hA hgo=>by
   unfold qd0 at hgo⊢
   split
   ·rename_i hx
    rw[if_pos hx] at hgo
    cases hgo
   ·exact⟨zan _,hk t hA⟩) t.size (hby.mono fun n h q=>h q.1 q.2)
 refine Ev.succ (hmap.mono fun n h p y E s hc=>?_)
 obtain⟨s',e1,⟨H',r1,r2,r3⟩,e3⟩:=h (p,s.next) (y,false) E (qak (qak s (.cells [isv p])) (.cells [bl false])) t 0 (zan _) hAd (by omega) (by omega) ⟨s.heap,rfl,rfl,hc⟩
 generalize (qc2 (qd0 is) t.size (y,false) t 0).1=q at e1 r1 r3⊢
 refine⟨s',H',?_,r1,r3,r2,e3⟩
 rw[qb0]
 refine qfn (cf:=cf159) (np:=2) (args':=[t.v,isv p]) (v:=bl q.2) (by kernel_rfl) (by kernel_rfl) rfl (by simp only[zap,qal,hw];rfl) (by simp only[zam,qai,he];rfl) ((s159_eq _ _ _ _ _).trans ?_) rfl rfl
 have h':cl (qag CP n E) 108 [t.v,i64 0,.func 191 [] [.ptr (qak s (.cells [isv p])).next 0,.ptr s.next 0]] (qak (qak s (.cells [isv p])) (.cells [bl false]))=some (_,s'):=e1
 have hst:stH (qak (qak s (.cells [isv p])) (.cells [bl false])) (.ptr (qak s (.cells [isv p])).next 0) [bl false]=some (qak (qak s (.cells [isv p])) (.cells [bl false])):=qlJ _ _ _ _ _ rfl rfl
 have hc7:qas (qag CP n E).E s' (qak s (.cells [isv p])).next=some [bl q.2]:=qaX r1
 have haw:[isv p].all qaY=true:=by simp only[zap,ha,List.all_nil,zat]
 have haw2:[bl false].all qaY=true:=rfl
 unfold s159
 simp only[hce,haw,qcd,hst,h',ldP hc7,qcG,qah,qaS,zaa,qab,qbd,qbx,cnd]
end
theorem qmR (is:Tm->Int->Bool)(t:Tm):(qc2 (qd0 fun(y:Unit) t l=>(y,is t l)) t.size ((),false) t 0).1.2=t.any is 0:=by
 rw[qmP is t.size ((),false) t 0 (zan _)]
 exact za7 _
def qcw (t:Tm)(l:Int):Bool:=decide (t.k=12)&&decide (t.n=l)
def qkN (t:Tm):Bool:=t.any qcw 0
theorem lead1_u:UC 189 qa (fun p _ _=>True) (fun p=>bl (qcw p.1 p.2)):=by
 refine UC.of (cf:=cf189) (np:=2) (by kernel_rfl) (by kernel_rfl) (fun _=>rfl) qlN qjn (fun _=>Stab.pure _) (fun p lo=>rfl) (Ev.of fun n p E s _=>⟨bl (qcw p.1 p.2),s,(s189_eq _ _ _ _ _).trans ?_,rfl⟩)
 unfold s189 s189_0 qcw
 simp only[qah,qba,qbX,qad,qaf,qaa,qaj,zab,zaa]
 by_cases hk:p.1.k=12<;>simp only[hk,zax,zau,decide_true,decide_false,cond_true,cond_false]
theorem qtq (t:Tm)(hs:t.size<=900000):PC CP 155 [t.v] (bl (qkN t)):=by
 have his:Ev fun n=>IsC (ι:=Unit) (fun _=> .p (.func 189 [] [])) (fun(y:Unit) t l=>(y,qcw t l)) (fun _ _ _ _ _=>True) (fun _=>True) n t.size:=by
  refine(lead1_u.and (Ev.ge 1)).mono fun n ⟨h,hn⟩ p y E H N a b s t l _ _ _ h1 h2 _=>⟨s,H,?_,h1,h2,trivial,TF.refl s⟩
  rw[qpr hn]
  exact h (t,l) E s trivial
 refine PC.of2 (cf:=cf155) (np:=1) (args':=[t.v]) (by kernel_rfl) (by kernel_rfl) rfl (by simp only[zap,qal];rfl) (by simp only[zam,qai];rfl) (fun lo=>rfl)
  ((qho (C:=fun _ _ _ _ _=>True) (Ad:=fun _=>True) (fun _=>rfl) (fun _=>rfl) (fun _=>rfl) (fun _=>rfl) t hs trivial (fun _ _ _ _=>trivial) his (fun _ _ _ _ _ _ h _=>h)).mono fun n h E s=>?_)
 obtain⟨s',H',e,_⟩:=h () () E s trivial
 rw[qmR] at e
 refine⟨bl (qkN t),s',(s155_eq _ _ _ _).trans ?_,rfl⟩
 unfold s155
 have e':cl (qag CP n E) 159 [t.v,.p (.func 189 [] [])] s=some (bl (qkN t),s'):=e
 simp only[e',qah,qaS,zaa,qab]
def qeN (t:Tm):Option Tm:=if t.k=11 then(match t.ks with|[u,w]=>if !qkN u then some (Tm.unl u) else none|_=>none) else none
theorem qrl (x:Sc)(u w:Tm)(hok:u.Ok)(hs:u.size<=900000):IC 156 (fun l=>[.ptr l 0]) (C1 (vw x (.lbl u w)).c) (Tm.unl u).v:=by
 refine IC.of (cf:=cf156) (np:=1) (args':=fun l=>[.ptr l 0]) (by kernel_rfl) (by kernel_rfl) (fun _=>rfl) (fun _=>rfl) (fun _=>rfl) (fun l=>Stab.at l _) (fun lo=>qaM lo _) ((qkM u hok hs).mono fun N h l E s hc=>⟨(Tm.unl u).v,s,(s156_eq _ _ _ _).trans ?_,qai _⟩)
 obtain⟨i0,l0⟩:=qb5 (n:=N) (E:=E) (l:=[u,w]) (u:=u) rfl
 have hc':qas (qag CP N E).E s l=some (vw x (.lbl u w)).c:=by rw[qa7];exact hc
 unfold s156
 simp only[ldP hc',zaF,i0,l0,h,qah,qaS,qau,qcl,vwt,zaa,qab,qbv,Tm.ks_mk]
theorem qtr (x:Sc)(t:Tm)(g:Gd x t)(hs:t.size<=900000):RuC 89 x t (qeN t):=by
 by_cases hk:t.k=11
 ·cases g.sh with
  |lbl u w=>
   have e:qeN (.lbl u w)=if !qkN u then some (Tm.unl u) else none:=rfl
   rw[e]
   have ou:=g.ok.kids u (by simp[Tm.ks])
   have su:u.size<(Tm.lbl u w).size:=qa3 (by simp[Tm.ks])
   refine RuC.of (cf:=cf89) (by kernel_rfl) (by kernel_rfl) (((qdo (vw x (.lbl u w)) 11).and ((qtq u (by omega)).and (qc6 (!qkN u) 156 (fun l=>[.ptr l 0]) (fun _=>rfl) (C1 (vw x (.lbl u w)).c) (fun l=>Stab.at l _) _ fun h=>qrl x u w ou (by omega)))).mono fun N ⟨h1,h2,h4⟩ E s=>?_)
   obtain⟨i0,l0⟩:=qb5 (n:=N) (E:=E) (l:=[u,w]) (u:=u) rfl
   have hw:=fun(s:ASt)=>h4 s.next E (qak s (.cells (vw x (.lbl u w)).c)) (qaP _ _ _)
   refine⟨qak s (.cells (vw x (.lbl u w)).c),(s89_eq _ _ _ _).trans ?_⟩
   unfold s89 s89_0
   clear e
   simp only[h1,i0,l0,h2,hw,qah,qaS,qau,qaH,qch,qcl,qdj,vwt,decide_true,qaa,cond_true,qaj,zaa,qab,qan,qaw,qax,qam,qbd,qbx,cnd,qcR,Tm.k_mk,Tm.ks_mk,qaB]
  |_=>simp only[Tm.k_mk] at hk;omega
 ·have e:qeN t=none:=by unfold qeN;rw[if_neg hk]
  rw[e]
  refine RuC.of (cf:=cf89) (by kernel_rfl) (by kernel_rfl) (((qdo (vw x t) 11).and (qc6 false 156 (fun l=>[.ptr l 0]) (fun _=>rfl) (C1 (vw x t).c) (fun l=>Stab.at l _) .z fun h=>nomatch h)).mono fun N ⟨h1,h3⟩ E s=>?_)
  have hw:=fun(s:ASt)=>h3 s.next E (qak s (.cells (vw x t).c)) (qaP _ _ _)
  refine⟨qak s (.cells (vw x t).c),(s89_eq _ _ _ _).trans ?_⟩
  unfold s89 s89_0
  simp only[h1,hw,hk,zai,if_false,qah,qaS,qau,qaH,qch,qcl,qdj,vwt,decide_false,qaa,cond_false,qaj,zaa,qab,qan,qaw,qax,qbd,qbx,cnd,qcR,qaB,zaG,zaD]
end Go.AI.Tryz
namespace Go.AI
theorem qeq {E:qaU}{s s':ASt}{l:Nat}(h:s'.heap=s.heap):qas E s' l=qas E s l:=by unfold qas;rw[h]
def qdl (E H:qaU)(l:Nat):Option (List zA):=qas E ⟨0,H,0,[]⟩ l
end Go.AI
namespace Go.AI.Tryz
theorem qiu {E:qaU}{s:ASt}{l N:Nat}{a b:zH}{H:qaU}(h:s.heap=(N+1,a)::(N,b)::H)(hl:l<N):qas E s l=qdl E H l:=by
 rw[qbB h (by omega),qbB (s:={s with heap:=(N,b)::H}) rfl (by omega)]
 rfl
def qd1 (ar:Int)(t:Tm)(_:Int):Bool:=decide (t.k=2)||(decide (t.k=12)||(decide (0<t.i)&&!decide (ar<t.i)))
theorem qvj (y:Vw):UC 158 (fun p:Q×Nat=>[p.1.1.v,i64 p.1.2,.ptr p.2 0]) (fun p E s=>qas E s p.2=some y.c) (fun p=>bl (qd1 y.ar p.1.1 p.1.2)):=by
 refine UC.of (cf:=cf158) (np:=3) (by kernel_rfl) (by kernel_rfl) (fun _=>rfl) (fun _=>by simp only[zap,qal];rfl) (fun _=>by simp only[zam,qai];rfl) (fun p=>Stab.at p.2 _) (fun p lo=>rfl) (Ev.of fun n p E s hc=>⟨bl (qd1 y.ar p.1.1 p.1.2),s,(s158_eq _ _ _ _ _ _).trans ?_,rfl⟩)
 have hc':qas (qag CP n E).E s p.2=some y.c:=by rw[qa7];exact hc
 unfold s158 s158_0 qd1
 by_cases h2:p.1.1.k=2
 ·simp only[h2,zbk,qah,qba,qcJ,qad,qaf,qaC,zaj,decide_true,decide_false,qaa,cond_true,cond_false,qaj,zab,zaa,qbv]
 ·by_cases h12:p.1.1.k=12
  ·simp only[h12,zbk,za7,qah,qba,qcJ,qad,qaf,qaC,zaj,decide_true,decide_false,qaa,cond_true,cond_false,qaj,zab,zaa,qbv]
  ·by_cases h0:0<p.1.1.i
   ·simp only[h2,h12,h0,ldP hc',zaF,za7,zax,qah,qba,qcJ,qph,qad,qaf,qaC,qbc,decide_true,decide_false,qaa,cond_true,cond_false,qaj,zab,zaa,qbv]
   ·simp only[h2,h12,h0,za7,zau,qah,qba,qcJ,qad,qaf,qaC,decide_false,qaa,cond_false,qaj,zab,zaa,qbv]
def qdF (x:Sc)(t:Tm):Option Tm:=if t.k=18 then(match t.ks with|[u]=>if !u.any (qd1 x.top) 0 then some u else none|_=>none) else none
theorem qiv (x:Vw):qa2 (some x.c) (some x.c)=true:=by
 simp only[qa2,Vw.c,qdA,qfL,zat]
theorem qts {e:Env}{s:ASt}{l:Nat}{x:Vw}(h:qas e.E s l=some x.c):loadFrom e.E .nil s (.ptr l 0) 7=some x.c:=by
 simp only[loadFrom,h,zaa]
 rfl
theorem qrm (x:Sc)(t:Tm)(g:Gd x t)(hs:t.size<=900000):RuC 91 x t (qdF x t):=by
 have p124:qdB CP 124=true:=by kernel_rfl
 by_cases hk:t.k=18
 ·cases g.sh with
  |ntc n0 i u=>
   have e:qdF x (.ntc n0 i u)=if !u.any (qd1 x.top) 0 then some u else none:=rfl
   rw[e]
   clear e
   have su:u.size<(Tm.ntc n0 i u).size:=qa3 (by simp[Tm.ks])
   let y:=vw x (.ntc n0 i u)
   have his:Ev fun n=>IsC (ι:=Nat) (fun l=> .func 158 [] [.ptr l 0]) (fun(q:Unit) t l=>(q,qd1 x.top t l)) (fun l _ E H N=>qdl E H l=some y.c/\l<N) (fun _=>True) n u.size:=by
    refine((qvj y).and (Ev.ge 1)).mono fun n ⟨h,hn⟩ l q E H N a b s t' l' _ _ _ h1 h2 ⟨h3,h4⟩=>⟨s,H,?_,h1,h2,⟨h3,h4⟩,TF.refl s⟩
    rw[qhS CP hn]
    exact h ((t',l'),l) E s (by show qas _ _ _=_;rw[qiu h1 h4];exact h3)
   refine RuC.of (cf:=cf91) (by kernel_rfl) (by kernel_rfl) (((qdo y 18).and ((qho (Ad:=fun _=>True) (fun _=>rfl) (fun _=>rfl) (fun _=>rfl) (fun _=>rfl) u (by omega) trivial (fun _ _ _ _=>trivial) his (fun _ _ _ _ _ _ h hn=>⟨h.1,zaY h.2 hn⟩)).and (qdk (!u.any (qd1 x.top) 0) 133 y u fun _=>qfO _ u rfl))).mono fun N ⟨h1,h2,h3⟩ E s=>?_)
   obtain⟨i0,l0⟩:=qb5 (n:=N) (E:=E) (l:=[u]) (u:=u) rfl
   let s4:=qak s (.cells y.c)
   obtain⟨s',H',e1,e2,⟨e3,e4⟩,e5,e6⟩:=h2 s.next () E s4 ⟨qaP _ _ _,Nat.lt_succ_self _⟩
   rw[qmR] at e1 e2
   have hc4:qas (qag CP N E).E s4 s.next=some y.c:=by rw[qa7];exact qaP _ _ _
   have hc':qas (qag CP N E).E s' s.next=some y.c:=by
    rw[qa7,qiu e2 (by show s.next<s.next+1;omega)]
    exact e3
   refine⟨s',(s91_eq _ _ _ _).trans ?_⟩
   unfold s91 s91_0
   have hy:vw x (.ntc n0 i u)=y:=rfl
   have hyt:y.t=.ntc n0 i u:=rfl
   simp only[s4] at e1 hc4
   have haw:y.c.all qaY=true:=rfl
   simp only[hy,hyt,h1,i0,l0,e1,ldP hc',qts hc4,qts hc',qiv,qjm,p124,qlM,h3,zbk,Bool.or_true,zat,qah,qaS,qau,qaH,qch,qcl,qdj,decide_true,qaa,cond_true,qaj,zaa,qab,qan,qaw,qax,qam,qbd,qbx,cnd,qcR,Tm.k_mk,Tm.ks_mk,qaB]
  |_=>simp only[Tm.k_mk] at hk;omega
 ·have e:qdF x t=none:=by unfold qdF;rw[if_neg hk]
  rw[e]
  refine RuC.of (cf:=cf91) (by kernel_rfl) (by kernel_rfl) (((qdo (vw x t) 18).and (qdk false 133 (vw x t) .z fun h=>nomatch h)).mono fun N ⟨h1,h3⟩ E s=>?_)
  have hc4:qas (qag CP N E).E (qak s (.cells (vw x t).c)) s.next=some (vw x t).c:=by rw[qa7];exact qaP _ _ _
  refine⟨qak s (.cells (vw x t).c),(s91_eq _ _ _ _).trans ?_⟩
  unfold s91 s91_0
  simp only[h1,h3,hk,qts hc4,qiv,qjm,p124,qlM,zbk,Bool.or_true,zat,zai,if_false,qah,qaS,qau,qaH,qch,qcl,qdj,vwt,decide_false,qaa,cond_false,qaj,zaa,qab,qan,qaw,qax,qbd,qbx,cnd,qcR,qaB,zaG,zaD]
structure Nm where
 a:Bool
 p:Bool
 h:Bool
def Nm.c (y:Nm):List zA:=[bl y.a,bl y.p,bl y.h]
def Nm.v (y:Nm):zA:=.agg [bl y.a,bl y.p,bl y.h]
def isA (id:Int)(t:Tm)(_:Int):Bool:=decide (t.i=id)&&decide (t.k=3)
def isP (id:Int)(t:Tm)(_:Int):Bool:=decide (t.i=id)&&(decide (t.k=4)||decide (t.k=18))
def isH (id:Int)(t:Tm)(_:Int):Bool:=decide (t.i=id)&&decide (t.k=16)
def qsh (id:Int)(y:Nm)(t:Tm)(l:Int):Nm:=⟨y.a||isA id t l,y.p||isP id t l,y.h||isH id t l⟩
def qe8 (id:Int)(t:Tm):Nm:=⟨t.any (isA id) 0,t.any (isP id) 0,t.any (isH id) 0⟩
theorem qpt (id:Int):∀(d:Nat) (y:Nm) (t:Tm) (l:Int),t.size<=d->(qc2 (qd0 fun y t l=>(qsh id y t l,false)) d (y,false) t l).1=(⟨y.a||t.any (isA id) l,y.p||t.any (isP id) l,y.h||t.any (isH id) l⟩,false)
 |0,y,t,l,h=>by have:=Tm.size_pos t;omega
 |d+1,y,t,l,h=>by
  have hk:∀(ks:List Tm) (j:Nat) (y:Nm),(∀u∈ks,u.size<=d)->(qfz (qc2 (qd0 fun y t l=>(qsh id y t l,false)) d) (decide (t.k=11)) l j (y,false) ks).1=(⟨y.a||Tm.anyK (isA id) (decide (t.k=11)) l j ks,y.p||Tm.anyK (isP id) (decide (t.k=11)) l j ks,y.h||Tm.anyK (isH id) (decide (t.k=11)) l j ks⟩,false):=by
   intro ks
   induction ks with
   |nil=>intro j y _;simp only[qfz,Tm.anyK,Bool.or_false]
   |cons u r ih=>
    intro j y hu
    simp only[qfz,Tm.anyK]
    rw[qpt id d _ u _ (hu u (zav ..)),ih (j+1) _ fun v hv=>hu v (zaw _ hv)]
    simp only[Bool.or_assoc]
  unfold qc2
  simp only[qd0,zai,if_false,zal,if_true]
  rw[hk t.ks 0 _ (fun u hu=>by
   have:=Tm.sizeL_mem hu
   rw[Tm.size_ks t] at h;omega),Tm.any_eq (isA id),Tm.any_eq (isP id),Tm.any_eq (isH id)]
  simp only[qsh,Bool.or_assoc]
abbrev nmH (l:Nat)(id:Int)(H0:qaU)(y:Nm):qaU:=(l+1,.cells y.c)::(l,.cells [i64 id])::H0
theorem qrn (id:Int)(d:Nat):Ev fun n=>IsC (ι:=Nat×qaU) (fun p=> .func 203 [] [.ptr p.1 0,.ptr (p.1+1) 0]) (fun y t l=>(qsh id y t l,false)) (fun p y E H N=>H=nmH p.1 id p.2 y/\p.1+1<N) (fun _=>True) n d:=by
 refine Ev.succ ((Ev.ge 0).mono fun n _ p y E H N a b s t l _ _ _ h1 h2 ⟨h3,h4⟩=>?_)
 obtain⟨lp0,H0⟩:=p
 simp only at h3 h4
 subst h3
 let S:Nm->ASt:=fun y=>{s with heap:=(N+1,a)::(N,b)::nmH lp0 id H0 y}
 have hS:s=S y:=by
  show s={s with heap:=_}
  rw[<-h1]
 have hc5:∀y,qas (qag CP n E).E (S y) lp0=some [i64 id]:=fun y=>by
  rw[qa7,qiu (s:=S y) rfl (by omega)]
  have:qas E ⟨0,nmH lp0 id H0 y,0,[]⟩ lp0=_:=qbB rfl (by omega)
  rw[qdl,this]
  exact qaX rfl
 have hc7:∀y,qas (qag CP n E).E (S y) (lp0+1)=some y.c:=fun y=>by
  rw[qa7,qiu (s:=S y) rfl (by omega)]
  exact qaX rfl
 have hst:∀(y y':Nm) (o:Nat) (v:zA),qaY v=true->over y.c o [v]=some y'.c->stH (S y) (.ptr (lp0+1) o) [v]=some (S y'):=by
  intro y y' o v hv ho
  have b1:Nat.beq (N+1) (lp0+1)=false:=beq_false (by omega)
  have b2:Nat.beq N (lp0+1)=false:=beq_false (by omega)
  simp only[stH,qbL,S,nmH,qar,qaK,b1,b2,qaD rfl,cond_false,cond_true,zap,List.all_nil,hv,zat,ho,zaa,zab]
 have hrun:s203 (qag CP n E) n t.v (i64 l) (.ptr lp0 0) (.ptr (lp0+1) 0) (S y)=some (bl false,S (qsh id y t l)):=by
  have sa:∀(y:Nm) (v:Bool),stH (S y) (.ptr (lp0+1) 0) [bl v]=some (S ⟨v,y.p,y.h⟩):=fun y v=>hst y ⟨v,y.p,y.h⟩ 0 _ rfl rfl
  have sp:∀(y:Nm) (v:Bool),stH (S y) (.ptr (lp0+1) 1) [bl v]=some (S ⟨y.a,v,y.h⟩):=fun y v=>hst y ⟨y.a,v,y.h⟩ 1 _ rfl rfl
  have sh:∀(y:Nm) (v:Bool),stH (S y) (.ptr (lp0+1) 2) [bl v]=some (S ⟨y.a,y.p,v⟩):=fun y v=>hst y ⟨y.a,y.p,v⟩ 2 _ rfl rfl
  have l0:∀y:Nm,ldL y.c 0 none=some (bl y.a):=fun _=>rfl
  have l1:∀y:Nm,ldL y.c 1 none=some (bl y.p):=fun _=>rfl
  have l2:∀y:Nm,ldL y.c 2 none=some (bl y.h):=fun _=>rfl
  unfold s203 s203_3 s203_2 s203_1 s203_0 qsh isA isP isH
  by_cases hid:t.i=id
  ·obtain⟨ya,yp,yh⟩:=y
   by_cases k3:t.k=3<;>by_cases k4:t.k=4<;>by_cases k18:t.k=18<;>by_cases k16:t.k=16<;>cases ya<;>cases yp<;>cases yh<;>
    first
    |(exfalso;omega)
    |simp only[hid,k3,k4,k18,k16,ldP (hc5 _),ldP (hc7 _),l0,l1,l2,qcG,sa,sp,sh,qcd,zaF,Bool.or_true,Bool.or_false,zax,zat,qah,qba,qcJ,qad,qaf,zaj,decide_true,decide_false,qaa,cond_true,cond_false,qaj,zab,zaa,qbv]
  ·have:(⟨y.a||false,y.p||false,y.h||false⟩:Nm)=y:=by simp only[Bool.or_false]
   simp only[hid,ldP (hc5 _),qcG,zau,this,qah,qba,qcJ,qad,qaf,decide_false,qaa,cond_false,qaj,zab,zaa,qbv]
 refine⟨S (qsh id y t l),nmH lp0 id H0 (qsh id y t l),?_,rfl,h2,⟨rfl,h4⟩,?_⟩
 ·rw[qhS CP (by omega),qb0]
  refine qfn (cf:=cf203) (np:=4) (args':=[t.v,i64 l,.ptr lp0 0,.ptr (lp0+1) 0]) (v:=bl false) (by kernel_rfl) (by kernel_rfl) rfl (by simp only[zaQ,zaP,zap,qal];rfl) (by simp only[zaQ,zaP,zam,qai];rfl) ((s203_eq _ _ _ _ _ _ _).trans ?_) rfl rfl
  rw[<-hrun,<-hS]
 ·rw[hS]
  exact TF.refl _
theorem qpu (id:Int)(t:Tm)(hs:t.size<=900000):PC CP 186 [t.v,i64 id] (qe8 id t).v:=by
 refine PC.of2 (cf:=cf186) (np:=2) (args':=[t.v,i64 id]) (by kernel_rfl) (by kernel_rfl) rfl (by simp only[zap,qal];rfl) (by simp only[zam,qai];rfl) (fun lo=>rfl)
  ((qho (Ad:=fun _=>True) (fun _=>rfl) (fun _=>rfl) (fun _=>rfl) (fun _=>rfl) t hs trivial (fun _ _ _ _=>trivial) (qrn id t.size) (fun _ _ _ _ _ _ h hn=>⟨h.1,zaY h.2 hn⟩)).mono fun n h E s=>?_)
 let s8:=qak (qak s (.cells [i64 id])) (.cells [bl false,bl false,bl false])
 obtain⟨s',H',e1,e2,⟨e3,e4⟩,e5,e6⟩:=h (s.next,s.heap) ⟨false,false,false⟩ E s8 ⟨rfl,by show s.next+1<s.next+1+1;omega⟩
 rw[qpt id t.size _ t 0 (zan _)] at e1 e2 e3
 simp only[za7] at e1 e2 e3
 have hnm:(⟨t.any (isA id) 0,t.any (isP id) 0,t.any (isH id) 0⟩:Nm)=qe8 id t:=rfl
 rw[hnm] at e3
 have hN:s8.next=s.next+1+1:=rfl
 have hc7:qas (qag CP n E).E s' (qak s (.cells [i64 id])).next=some (qe8 id t).c:=by
  rw[qa7,qiu e2 (by show s.next+1<s.next+1+1;omega),e3]
  exact qaX rfl
 have hst:stH s' (.ptr (qak s (.cells [i64 id])).next 0) (qe8 id t).c=some s':=by
  have b1:Nat.beq (s8.next+1) (qak s (.cells [i64 id])).next=false:=beq_false (by show s.next+1+1+1≠s.next+1;omega)
  have b2:Nat.beq s8.next (qak s (.cells [i64 id])).next=false:=beq_false (by show s.next+1+1≠s.next+1;omega)
  have b3:Nat.beq (s.next+1) (qak s (.cells [i64 id])).next=true:=qaD rfl
  have ho:over (qe8 id t).c 0 (qe8 id t).c=some (qe8 id t).c:=rfl
  have haw:(qe8 id t).c.all qaY=true:=rfl
  have hs':s'.heap=(s8.next+1,.cells [bl false])::(s8.next,.cells [.func 203 [] [.ptr s.next 0,.ptr (s.next+1) 0]])::(s.next+1,.cells (qe8 id t).c)::(s.next,.cells [i64 id])::s.heap:=by rw[e2,e3]
  simp only[stH,qbL,hs',qar,qaK,b1,b2,b3,cond_false,cond_true,haw,ho,zaa,zab]
  rw[<-hs']
 have e1':cl (qag CP n E) 159 [t.v,.func 203 [] [.ptr s.next 0,.ptr (qak s (.cells [i64 id])).next 0]] (qak (qak s (.cells [i64 id])) (.cells [bl false,bl false,bl false]))=some (bl false,s'):=e1
 have haw:[i64 id].all qaY=true:=rfl
 have haw3:[bl false,bl false,bl false].all qaY=true:=rfl
 have n1:ldL (qe8 id t).c 0 (some 3)=some (qe8 id t).v:=rfl
 have n2:zA.cells (some 3) (qe8 id t).v=some (qe8 id t).c:=rfl
 refine⟨(qe8 id t).v,s',(s186_eq _ _ _ _ _).trans ?_,rfl⟩
 unfold s186
 simp only[haw,qbM,e1',ldP hc7,n1,n2,hst,qah,qaS,zaa,qab,qbd,qbx,cnd]
end Go.AI.Tryz
namespace Go.AI
mutual
def w1F (id:Int)(val:Tm):Tm->Tm
 |.mk k n m i ks=>if i=id then(if k=3 then val else if k=4 then .az 1 (ks.headD .z) else if k=18 then(w1L id val ks).headD .z else .mk k n m i ks) else .mk k n m i ks
def w1L (id:Int)(val:Tm):List Tm->List Tm
 |[]=>[]
 |u::r=>w1F id val u::w1L id val r
end
mutual
def woF (id:Int)(val:Tm):Tm->Tm
 |.mk k n m i ks=>if i=id then(if k=3 then val else if k=4 then .az 1 ((woL id val ks).headD .z) else if k=18 then(woL id val ks).headD .z else .mk k n m i (woL id val ks)) else .mk k n m (if id<i then i-1 else i) (woL id val ks)
def woL (id:Int)(val:Tm):List Tm->List Tm
 |[]=>[]
 |u::r=>woF id val u::woL id val r
end
inductive AllN (P:Tm->Prop):Tm->Prop where
 |mk {t:Tm} (h:P t) (hk:∀u∈t.ks,AllN P u):AllN P t
theorem AllN.hd {P:Tm->Prop}{t:Tm}(h:AllN P t):P t:=by cases h with|mk h _=>exact h
theorem AllN.kid {P:Tm->Prop}{t u:Tm}(h:AllN P t)(hu:u∈t.ks):AllN P u:=by cases h with|mk _ h=>exact h u hu
theorem qpv (id:Int)(val t:Tm):w1F id val t=if t.i=id then(if t.k=3 then val else if t.k=4 then .az 1 (t.ks.headD .z) else if t.k=18 then(w1L id val t.ks).headD .z else t) else t:=by
 cases t;rw[w1F];rfl
theorem qtt (id:Int)(val t:Tm):woF id val t=if t.i=id then(if t.k=3 then val else if t.k=4 then .az 1 ((woL id val t.ks).headD .z) else if t.k=18 then(woL id val t.ks).headD .z else .mk t.k t.n t.m t.i (woL id val t.ks)) else .mk t.k t.n t.m (if id<t.i then t.i-1 else t.i) (woL id val t.ks):=by
 cases t;rw[woF];rfl
def NmK (id:Int)(t:Tm):Prop:=t.i=id->(t.k=3/\t.ks=[])\/(t.k=4/\t.n=0/\t.m=0/\∃u,t.ks=[u])\/(t.k=18/\∃u,t.ks=[u])
def qdm (id:Int)(t:Tm):Tm:=.mk t.k t.n t.m (if id<t.i then t.i-1 else t.i) t.ks
theorem qpw {id:Int}{val:Tm}(hv:val.i=0/\val.ks=[])(h0:1<=id)(f:Unit->Tm->Int->Unit×Tm):∀(d:Nat) (t:Tm),t.size<=d->AllN (NmK id) t->(∀u,u.size<t.size->AllN (NmK id) u->∀l,(f () u l).2=woF id val u)->
  ∀lab l,(qdm id (w1F id val t)).with (qfz f lab l 0 () (qdm id (w1F id val t)).ks).2=woF id val t
 |0,t,h,_,_,_,_=>by have:=Tm.size_pos t;omega
 |d+1,t,h,hA,hf,lab,l=>by
  have hfk:∀(ks:List Tm) (j:Nat),(∀u∈ks,u.size<t.size/\AllN (NmK id) u)->(qfz f lab l j () ks).2=woL id val ks:=by
   intro ks
   induction ks with
   |nil=>intro j _;rfl
   |cons u r ih=>
    intro j hu
    simp only[qfz,woL]
    rw[hf u (hu u (zav ..)).1 (hu u (zav ..)).2,ih (j+1) fun v hv=>hu v (zaw _ hv)]
  have hks:∀u∈t.ks,u.size<t.size/\AllN (NmK id) u:=fun u hu=>⟨by have:=Tm.sizeL_mem hu;rw[Tm.size_ks t];omega,hA.kid hu⟩
  rw[qpv,qtt]
  by_cases hi:t.i=id
  ·rw[if_pos hi,if_pos hi]
   rcases hA.hd hi with⟨hk,hu⟩|⟨hk,_,_,u,hu⟩|⟨hk,u,hu⟩
   ·rw[if_pos hk,if_pos hk]
    obtain⟨k,n,m,i,ks⟩:=val
    simp only[Tm.i,Tm.ks] at hv
    obtain⟨rfl,rfl⟩:=hv
    have hz:¬id<0:=by omega
    simp only[qdm,Tm.with,Tm.k,Tm.n,Tm.m,Tm.i,Tm.ks,qfz,hz,if_false]
   ·rw[if_neg (by omega),if_pos hk,if_neg (by omega),if_pos hk,hu]
    have hm:u∈t.ks:=by rw[hu];exact zav ..
    have e:=hfk [u] 0 (by rw[<-hu];exact hks)
    have hz:¬id<0:=by omega
    simp only[qdm,Tm.with,Tm.k,Tm.n,Tm.m,Tm.i,Tm.ks,hz,if_false,zbh]
    rw[e]
    simp only[woL,zbh]
   ·rw[if_neg (by omega),if_neg (by omega),if_pos hk,if_neg (by omega),if_neg (by omega),if_pos hk,hu]
    have hm:u∈t.ks:=by rw[hu];exact zav ..
    have hus:=(hks u hm).1
    simp only[w1L,woL,zbh]
    exact qpw hv h0 f d u (by omega) (hA.kid hm) (fun v hvs=>hf v (by omega)) lab l
  ·rw[if_neg hi,if_neg hi]
   have e:=hfk t.ks 0 hks
   simp only[qdm,Tm.with,Tm.k,Tm.n,Tm.m,Tm.i,Tm.ks_mk]
   rw[e]
theorem qpx {id:Int}{val:Tm}(hv:val.i=0/\val.ks=[])(h0:1<=id):∀(d:Nat) (t:Tm) (l:Int),t.size<=d->AllN (NmK id) t->(qc2 (fun(x:Unit) t l=>(x,qdm id (w1F id val t),true)) d () t l).2=woF id val t
 |0,t,l,h,_=>by have:=Tm.size_pos t;omega
 |d+1,t,l,h,hA=>by
  simp only[qc2,if_true]
  exact qpw hv h0 _ (d+1) t h hA (fun u hu hAu l=>qpx hv h0 d u l (by omega) hAu) _ _
theorem qpy {id:Int}{val:Tm}(hv:val.size=1):∀(d:Nat) (t:Tm),t.size<=d->AllN (NmK id) t->(w1F id val t).size<=t.size
 |0,t,h,_=>by have:=Tm.size_pos t;omega
 |d+1,t,h,hA=>by
  rw[qpv]
  split
  ·rename_i hi
   rcases hA.hd hi with⟨hk,_⟩|⟨hk,_,_,u,hu⟩|⟨hk,u,hu⟩
   ·rw[if_pos hk,hv];exact Tm.size_pos t
   ·rw[if_neg (by omega),if_pos hk,hu,Tm.size_ks t,hu]
    simp only[zbh,Tm.size_ks,Tm.ks,Tm.sizeL];omega
   ·rw[if_neg (by omega),if_neg (by omega),if_pos hk,hu]
    have hm:u∈t.ks:=by rw[hu];exact zav ..
    have hlt:=Tm.sizeL_mem hm
    have ht:=Tm.size_ks t
    have:=qpy hv d u (by omega) (hA.kid hm)
    simp only[w1L,zbh]
    omega
  ·exact zan _
theorem qpz {id:Int}{val:Tm}(hv:val.ks=[])(P:Tm->Prop):∀(d:Nat) (t:Tm),t.size<=d->AllN (NmK id) t->AllN P t->∀u∈(w1F id val t).ks,AllN P u
 |0,t,h,_,_=>by have:=Tm.size_pos t;omega
 |d+1,t,h,hA,hP=>by
  rw[qpv]
  split
  ·rename_i hi
   rcases hA.hd hi with⟨hk,_⟩|⟨hk,_,_,u,hu⟩|⟨hk,u,hu⟩
   ·rw[if_pos hk,hv];intro u hu;cases hu
   ·rw[if_neg (by omega),if_pos hk,hu]
    intro v hv
    simp only[zbh,Tm.ks,zaV] at hv
    subst hv
    exact hP.kid (by rw[hu];exact zav ..)
   ·rw[if_neg (by omega),if_neg (by omega),if_pos hk,hu]
    have hm:u∈t.ks:=by rw[hu];exact zav ..
    have hlt:=Tm.sizeL_mem hm
    have ht:=Tm.size_ks t
    simp only[w1L,zbh]
    exact qpz hv P d u (by omega) (hA.kid hm) (hP.kid hm)
  ·exact fun u hu=>hP.kid hu
end Go.AI
namespace Go.AI
theorem AllN.imp {P P':Tm->Prop}(h:∀t,P t->P' t){t:Tm}(a:AllN P t):AllN P' t:=by
 induction t using Tm.ind with
 |h k n m i ks ih=>exact .mk (h _ a.hd) fun u hu=>ih u hu (a.kid hu)
end Go.AI
namespace Go.AI.Tryz
abbrev Big (t:Tm):Prop:=t.i<=9223372036854775807
section
variable {ι:Type} {bv:ι->zA} {Cb:ι->qaU->ASt->Prop} {Pb:Tm->Prop} {id:Int} {val:Tm}
def b1F (val:Tm)(t:Tm):Tm:=if t.k=3 then val else if t.k=4 then .az 1 (t.ks.headD .z) else t.ks.headD .z
theorem qw7 (hv:val.i=0/\val.ks=[])(h0:1<=id)(hPb:∀t,Pb t->NmK id t/\Big t)(hS:∀p,Stab (Cb p))(d:Nat)
  (hb:Ev fun n=>∀p E s t,Cb p E s->Pb t->t.i=id->clv (qag CP n E) (bv p) [t.v] s=some ((b1F val t).v,s)):
  Ev fun n=>∀l6 l9 p E s t l,qas E s l6=some [i64 id]->qas E s l9=some [bv p]->Cb p E s->t.size<=d->AllN Pb t->cl (qag CP n E) 204 [t.v,i64 l,.ptr l6 0,.ptr l9 0] s=some (.tuple [(qdm id (w1F id val t)).v,bl true],s):=by
 refine Ev.succ ((hb.and (Ev.ge (d+3))).mono fun n ⟨hb,hn⟩ l6 l9 p E s t l h6 h9 hc hs hA=>?_)
 rw[qb0]
 have h6':qas (qag CP n (s.heap++E)).E {s with heap:=[],toks:=[]} l6=some [i64 id]:=by rw[qa7,qel];exact h6
 have h9':qas (qag CP n (s.heap++E)).E {s with heap:=[],toks:=[]} l9=some [bv p]:=by rw[qa7,qel];exact h9
 have hb':=fun t=>hb p (s.heap++E) {s with heap:=[],toks:=[]} t (hS p E s hc)
 suffices hrun:s204 (qag CP n (s.heap++E)) n t.v (i64 l) (.ptr l6 0) (.ptr l9 0) {s with heap:=[],toks:=[]}=some (.tuple [(qdm id (w1F id val t)).v,bl true],{s with heap:=[],toks:=[]}) from
  qg0 (cf:=cf204) (np:=4) (args':=[t.v,i64 l,.ptr l6 0,.ptr l9 0]) (by kernel_rfl) (by kernel_rfl) rfl (by simp only[zap,qal];rfl) (by simp only[zam,qai];rfl) ((s204_eq _ _ _ _ _ _ _).trans hrun) (qb1 _ _) (qce _ _ _)
 generalize ({s with heap:=[],toks:=[]}:ASt)=s0 at h6' h9' hb'⊢
 generalize s.heap++E=E0 at h6' h9' hb'⊢
 unfold s204
 simp only[qah,zaa]
 unfold s204_1
 generalize hF:(fun(h9:List zA->List zA->ASt->Res) (c6 c7:List zA) (s8:ASt)=>_)=F
 have hex:∀(t:Tm) (k:Nat),t.i≠id->Big t->lp (fun _ _ _=>none) F (k+1) t.c [u8 0,i64 0,i64 0,i64 0,.sl 0 [] .full] s0=some (.tuple [(qdm id t).v,bl true],s0):=by
  intro t k hne hbig
  rw[qa5]
  generalize lp _ F k=L
  subst hF
  unfold s204_0 qdm
  by_cases hgt:id<t.i
  ·have hw:qbb .i64 (t.i-1)=t.i-1:=qbt (by omega) (by omega)
   have ho:∀z:Int,over t.c 3 [i64 z]=some (Tm.mk t.k t.n t.m z t.ks).c:=fun _=>rfl
   simp only[hne,hgt,ldP h6',qcG,hw,ho,qbM,if_true,qah,qaS,qcJ,qau,qad,qaf,qaC,qa0,decide_true,decide_false,qaa,cond_true,cond_false,qaj,zab,zaa]
  ·simp only[hne,hgt,ldP h6',qcG,if_false,qsg,qah,qaS,qcJ,qau,qad,qaf,qaC,qa0,decide_false,qaa,cond_false,qaj,zab,zaa]
 have key:∀(d:Nat) (t:Tm) (k:Nat),t.size<=d->d+1<k->AllN Pb t->lp (fun _ _ _=>none) F k t.c [u8 0,i64 0,i64 0,i64 0,.sl 0 [] .full] s0=some (.tuple [(qdm id (w1F id val t)).v,bl true],s0):=by
  intro d
  induction d with
  |zero=>intro t k h;have:=Tm.size_pos t;omega
  |succ d ih=>
   intro t k hs hk hA
   obtain⟨k,rfl⟩:∃m,k=m+2:=⟨k-2,by omega⟩
   by_cases hi:t.i=id
   ·have hcl:=hb' t hA.hd hi
    have hstep:lp (fun _ _ _=>none) F (k+1) (b1F val t).c [u8 0,i64 0,i64 0,i64 0,.sl 0 [] .full] s0=some (.tuple [(qdm id (w1F id val t)).v,bl true],s0):=by
     rw[qpv,if_pos hi]
     unfold b1F
     rcases(hPb t hA.hd).1 hi with⟨hk3,hu⟩|⟨hk4,_,_,u,hu⟩|⟨hk18,u,hu⟩
     ·rw[if_pos hk3,if_pos hk3]
      exact hex val k (by omega) (by show val.i<=_;omega)
     ·rw[if_neg (by omega),if_pos hk4,if_neg (by omega),if_pos hk4]
      exact hex (.az 1 (t.ks.headD .z)) k (by show(0:Int)≠id;omega) (by show(0:Int)<=_;omega)
     ·rw[if_neg (by omega),if_neg (by omega),if_neg (by omega),if_neg (by omega),if_pos hk18,hu]
      have hm:u∈t.ks:=by rw[hu];exact zav ..
      have hlt:=Tm.sizeL_mem hm
      have ht:=Tm.size_ks t
      exact ih u (k+1) (by omega) (by omega) (hA.kid hm)
    rw[qa5]
    generalize lp _ F (k+1)=L at hstep⊢
    subst hF
    simp only[hi,ldP h6',ldP h9',qcG,hcl,qah,qaS,qcJ,qpg,qad,qaf,qaC,qa0,decide_true,qaa,cond_true,qaj,zab,zaa,qab]
    have hx:ldL [bv p] 0 none=some (bv p):=rfl
    exact hstep
   ·rw[qpv,if_neg hi]
    exact hex t (k+1) hi (hPb t hA.hd).2
 exact key d t n hs (by omega) hA
theorem qhp (hv:val.i=0/\val.ks=[]/\val.size=1)(h0:1<=id)(hPb:∀t,Pb t->NmK id t/\Big t)(hS:∀p,Stab (Cb p))(hN:∀p E s o,Cb p E s->Cb p E (qak s o))(hH:∀p E s s',Cb p E s->s'.heap=s.heap->s'.next=s.next->Cb p E s')
  (ha:∀p,qaY (bv p)=true)(hw:∀p,qbG (bv p)=true)(hce:∀p,zA.cells none (bv p)=some [bv p])(he:∀p,qaF (bv p)=bv p)
  (t:Tm)(hs:t.size<=900000)(hA:AllN Pb t)
  (hb:Ev fun n=>∀p E s t,Cb p E s->Pb t->t.i=id->clv (qag CP n E) (bv p) [t.v] s=some ((b1F val t).v,s)):
  Ev fun n=>∀p E s,Cb p E s->cl (qag CP n E) 188 [t.v,i64 id,bv p] s=some ((woF id val t).v,s):=by
 have hNmA:∀t,AllN Pb t->AllN (NmK id) t:=fun t h=>h.imp fun t h=>(hPb t h).1
 have hmap:=qdZ (κ:=Nat×Nat×ι) (R:=fun q (_:Unit) E s=>qas E s q.1=some [i64 id]/\qas E s q.2.1=some [bv q.2.2]/\Cb q.2.2 E s) (fv:=fun q=> .func 204 [] [.ptr q.1 0,.ptr q.2.1 0]) (by_:=fun x t l=>(x,qdm id (w1F id val t),true)) (Ad:=AllN Pb)
  (fun q x E s s' ⟨r1,r2,r3⟩ e1 e2=>⟨by rw[qeq e1];exact r1,by rw[qeq e1];exact r2,hH _ E s s' r3 e1 e2⟩) (fun _=>rfl) (fun _=>rfl)
  (fun x t l hA _=>⟨by
    have:=qpy (id:=id) (val:=val) hv.2.2 t.size t (zan _) (hNmA t hA)
    simp only[qdm,Tm.size_ks,Tm.ks_mk] at this⊢
    exact this,fun u hu=>qpz hv.2.1 Pb t.size t (zan _) (hNmA t hA) hA u (by simpa only[qdm,Tm.ks_mk] using hu)⟩) t.size
  (((qw7 ⟨hv.1,hv.2.1⟩ h0 hPb hS t.size hb).and (Ev.ge 1)).mono fun n ⟨h,hn⟩ q x E s t l h1 h2 h3 h4 ⟨r1,r2,r3⟩=>⟨s,by
    rw[qhS CP hn]
    exact h q.1 q.2.1 q.2.2 E s t l r1 r2 r3 h1 h2,⟨r1,r2,r3⟩,TF.refl s⟩)
 refine Ev.succ (hmap.mono fun n h p E s hc=>?_)
 rw[qb0]
 let s0:ASt:={s with heap:=[],toks:=[]}
 have hc0:=hS p E s hc
 have hc1:=hN p _ _ (.cells [bv p]) (hN p _ _ (.cells [i64 id]) hc0)
 obtain⟨s',e1,_,_⟩:=h (s0.next,(qak s0 (.cells [i64 id])).next,p) () (s.heap++E) (qak (qak s0 (.cells [i64 id])) (.cells [bv p])) t 0 (zan _) hA (by omega) (by omega) ⟨qdu _ _ _ _,qaP _ _ _,hc1⟩
 have e:=qpx (id:=id) (val:=val) ⟨hv.1,hv.2.1⟩ h0 t.size t 0 (zan _) (hNmA t hA)
 rw[e] at e1
 refine qg0 (cf:=cf188) (np:=3) (args':=[t.v,i64 id,bv p]) (v:=(woF id val t).v) (s':=s') (by kernel_rfl) (by kernel_rfl) rfl (by simp only[zap,qal,hw];rfl) (by simp only[zam,qai,he];rfl) ((s188_eq _ _ _ _ _ _).trans ?_) (qai _) (qaM _ _)
 have haw:[bv p].all qaY=true:=by simp only[zap,ha,List.all_nil,zat]
 have haw2:[i64 id].all qaY=true:=rfl
 have e2:cl (qag CP n (s.heap++E)) 108 [t.v,i64 0,.func 204 [] [.ptr s.next 0,.ptr (qak {s with heap:=[],toks:=[]} (.cells [i64 id])).next 0]] (qak (qak {s with heap:=[],toks:=[]} (.cells [i64 id])) (.cells [bv p]))=some ((woF id val t).v,s'):=e1
 unfold s188
 simp only[hce,haw,haw2,qbM,e2,qah,qaS,qau,zaa,qab,qbd,qbx,cnd]
def clR (x:Sc)(ok:Nm->Bool)(val:Tm)(t:Tm):Option Tm:=if t.k=10 then(match t.ks with|[u]=>if ok (qe8 (Int.ofNat x.ids.length+1) u) then some (woF (Int.ofNat x.ids.length+1) val u) else none|_=>none) else none
theorem qtu (x:Vw)(hl:x.sz.length<=1000000):PC CP 187 [x.v] (i64 (Int.ofNat x.sz.length+1)):=by
 refine PC.of2 (cf:=cf187) (np:=1) (args':=[x.v]) (by kernel_rfl) (by kernel_rfl) rfl (by first|rfl|(simp only[zap,qal,qb6];rfl)) (by first|rfl|(simp only[zam,qai,qb7];rfl)) (fun lo=>by first|rfl|exact qaM lo _|exact qaR lo _|exact qce lo _ _) (Ev.mono (ev0) fun N _ E s=>⟨i64 (Int.ofNat x.sz.length+1),s,(s187_eq _ _ _ _).trans ?_,(by first|rfl|exact qai _|exact qaN _|exact qb1 _ _)⟩)
 have hw:qbb .i64 (Int.ofNat x.sz.length+1)=Int.ofNat x.sz.length+1:=qbt (by simp only[zaf];omega) (by simp only[zaf];omega)
 unfold s187
 simp only[hw,qaH,quf,qad,qay,zab,zaa,qbo]
theorem qfR (x:Sc)(t:Tm)(g:Gd x t)(hs:t.size<=900000)(f:Nat)(ok:Nm->Bool)(hok:∀y:Nm,PC CP f [y.v] (bl (ok y)))
  (hw:∀p,qbG (bv p)=true)(he:∀p,qaF (bv p)=bv p)(hS:∀p,Stab (Cb p))
  (hwo:∀u,t.k=10->t.ks=[u]->ok (qe8 (Int.ofNat x.ids.length+1) u)=true->Ev fun n=>∀p E s,Cb p E s->cl (qag CP n E) 188 [u.v,i64 (Int.ofNat x.ids.length+1),bv p] s=some ((woF (Int.ofNat x.ids.length+1) val u).v,s)):
  Ev fun n=>∀p E s,Cb p E s->cl (qag CP n E) 148 [(vw x t).v,.p (.func f [] []),bv p] s=some (qcM (clR x ok val t),s):=by
 suffices Ev fun n=>∀p E s,Cb p E s->∃s',s148 (qag CP n E) n (vw x t).v (.p (.func f [] [])) (bv p) s=some (qcM (clR x ok val t),s') by
  refine Ev.succ (this.mono fun n h p E s hc=>?_)
  obtain⟨s',e⟩:=h p _ _ (hS p E s hc)
  rw[qb0]
  exact qg0 (cf:=cf148) (np:=3) (args':=[(vw x t).v,.p (.func f [] []),bv p]) (by kernel_rfl) (by kernel_rfl) rfl (by simp only[zap,qb6,hw];rfl) (by simp only[zam,qb7,he];rfl) ((s148_eq _ _ _ _ _ _).trans e) (qaN _) (qaR _ _)
 have hsl:(vw x t).sz.length=x.ids.length:=by simp only[vw,za1]
 by_cases hk:t.k=10
 ·cases g.sh with
  |new n0 m0 u=>
   have su:u.size<(Tm.new n0 m0 u).size:=qa3 (by simp[Tm.ks])
   have e:clR x ok val (.new n0 m0 u)=if ok (qe8 (Int.ofNat x.ids.length+1) u) then some (woF (Int.ofNat x.ids.length+1) val u) else none:=rfl
   rw[e]
   clear e
   generalize hid:(Int.ofNat x.ids.length+1:Int)=id at hwo⊢
   have hcell:PC CP 187 [(vw x (.new n0 m0 u)).v] (i64 id):=by
    have:=qtu (vw x (.new n0 m0 u)) (by rw[hsl];exact g.l)
    rw[hsl,hid] at this
    exact this
   have hwo':=hwo u rfl rfl
   have hokn:=hok (qe8 id u)
   generalize ok (qe8 id u)=q at hwo' hokn⊢
   cases q with
   |false=>
    refine(((qdo (vw x (.new n0 m0 u)) 10).and (hcell.and ((qpu id u (by omega)).and (hokn.and (nothing_c.and (Ev.ge 1)))))).mono fun N ⟨h1,h2,h3,h4,h5,hn⟩ p E s hc=>⟨s,?_⟩)
    obtain⟨i0,l0⟩:=qb5 (n:=N) (E:=E) (l:=[u]) (u:=u) rfl
    unfold s148 s148_0
    simp only[h1,i0,l0,h2,h3,qhi CP hn,h4,h5,zai,if_false,qah,qaS,qau,qaH,qch,qcl,vwt,decide_true,zak,zal,qaa,cond_true,cond_false,qaj,zaa,qab,qan,qaw,qax,qam,Tm.k_mk,Tm.ks_mk,qaB,zaG,zaD]
   |true=>
    refine(((qdo (vw x (.new n0 m0 u)) 10).and (hcell.and ((qpu id u (by omega)).and (hokn.and ((hwo' rfl).and (Ev.ge 1)))))).mono fun N ⟨h1,h2,h3,h4,h5,hn⟩ p E s hc=>⟨s,?_⟩)
    obtain⟨i0,l0⟩:=qb5 (n:=N) (E:=E) (l:=[u]) (u:=u) rfl
    have h5':=h5 p E s hc
    unfold s148 s148_0
    simp only[h1,i0,l0,h2,h3,qhi CP hn,h4,h5',if_true,qah,qaS,qau,qaH,qch,qcl,vwt,decide_true,zak,qaa,cond_true,cond_false,qaj,zaa,qab,qam,Tm.k_mk,Tm.ks_mk,qaB,zaB,zbe]
  |_=>simp only[Tm.k_mk] at hk;omega
 ·have e:clR x ok val t=none:=by unfold clR;rw[if_neg hk]
  rw[e]
  refine((qdo (vw x t) 10).and nothing_c).mono fun N ⟨h1,h5⟩ p E s hc=>⟨s,?_⟩
  unfold s148 s148_0
  simp only[h1,h5,hk,qah,qaS,qau,qaH,qch,qcl,vwt,decide_false,zal,qaa,cond_true,qaj,zaa,qab,qan,qaw,qax,qam,qaB,zaG,zaD]
end
end Go.AI.Tryz
namespace Go.AI
theorem Sc.get_with {x:Sc}{y:Se}{i:Int}{e:Se}(h:x.get i=some e):(x.with y).get i=some e:=by
 obtain⟨j,hi,hj⟩:=Sc.get_inv h
 have hjl:=(zao.1 hj).1
 unfold Sc.get Sc.with
 rw[if_neg (by simp only[zaf] at hi;omega)]
 have:(i-1).toNat=j:=by simp only[zaf] at hi;omega
 rw[this]
 simp only[zaL hjl]
 exact hj
theorem Sc.get_last {x:Sc}{y:Se}:(x.with y).get (Int.ofNat x.ids.length+1)=some y:=by
 unfold Sc.get Sc.with
 rw[if_neg (by simp only[zaf];omega)]
 have:(Int.ofNat x.ids.length+1-1).toNat=x.ids.length:=by simp only[zaf];omega
 rw[this]
 simp only[List.getElem?_concat_length]
theorem qd2 {is:Tm->Int->Bool}(hl:∀t l l',is t l=is t l'){t:Tm}:∀{l:Int},t.any is l=false->AllN (fun t=>is t 0=false) t:=by
 induction t using Tm.ind with
 |h k n m i ks ih=>
  intro l h
  rw[Tm.any_eq,zaU] at h
  refine .mk (by rw[hl _ 0 l];exact h.1) ?_
  have hk:∀(r:List Tm) (j:Nat),(∀u∈r,u∈ks)->Tm.anyK is (decide ((Tm.mk k n m i ks).k=11)) l j r=false->∀u∈r,AllN (fun t=>is t 0=false) u:=by
   intro r
   induction r with
   |nil=>intro j _ _ u hu;cases hu
   |cons v r ih2=>
    intro j hm ha u hu
    simp only[Tm.anyK,zaU] at ha
    rcases zaE.1 hu with rfl|hu
    ·exact ih u (hm u (zav ..)) ha.1
    ·exact ih2 (j+1) (fun w hw=>hm w (zaw _ hw)) ha.2 u hu
  exact hk ks 0 (fun _ h=>h) h.2
theorem AllN.and {P Q:Tm->Prop}{t:Tm}(h:AllN P t)(k:AllN Q t):AllN (fun t=>P t/\Q t) t:=by
 induction t using Tm.ind with
 |h _ _ _ _ ks ih=>exact .mk ⟨h.hd,k.hd⟩ fun u hu=>ih u hu (h.kid hu) (k.kid hu)
end Go.AI
namespace Go.AI.Tryz
def qnK (id:Int)(t:Tm):Prop:=(t.i=id->t.k=3\/t.k=4\/t.k=18\/t.k=16)/\Sh t/\Big t
theorem Tm.Ok.big {t:Tm}(h:t.Ok):Big t:=by cases h with|mk _ _ _ hi _ _=>exact hi.2
theorem qfS {f:Tm->Bs->Bool}:∀{ks:List Tm} {ps:List Bs},qbu f ks ps=true->∀u∈ks,∃b∈ps,f u b=true
 |[],_,_,u,hu=>by cases hu
 |_::_,[],h,_,_=>by simp[qbu] at h
 |k::ks,b::ps,h,u,hu=>by
  simp only[qbu,zag] at h
  rcases zaE.1 hu with rfl|hu
  ·exact⟨b,zav ..,h.1⟩
  ·obtain⟨c,hc,hf⟩:=qfS h.2 u hu
   exact⟨c,zaw _ hc,hf⟩
theorem qft {x:Sc}{t:Tm}{b:Bs}(h:qds szF x t b=true):(szF x t=(b.n,true))\/(∃i e,t=.cel i/\x.get i=some e/\e.ty.res.cell=true/\e.ty.res.n=b.n/\b.cell=true)\/(∃u w,t=.obj u w/\szF x u=(b.n,true)/\szF (x.with ⟨⟨[],⟨false,b.n⟩⟩,true⟩) w=(1,true)/\b.cell=true):=by
 unfold qds at h
 split at h
 ·rename_i hc
  rw[zag] at h
  obtain⟨hok,h⟩:=h
  have hsh:=qlL hok
  split at h
  ·rename_i h16
   cases hsh with
   |cel i=>
    simp only[Tm.i_mk] at h
    cases he:x.get i with
    |none=>rw[he] at h;cases h
    |some e=>
     rw[he] at h
     simp only[zag,decide_eq_true_eq] at h
     exact .inr (.inl ⟨i,e,rfl,he,h.1,h.2,hc⟩)
   |_=>simp only[Tm.k_mk] at h16;omega
  ·split at h
   ·rename_i h17
    cases hsh with
    |obj u w=>
     simp only[Tm.ks_mk,zag,decide_eq_true_eq] at h
     exact .inr (.inr ⟨u,w,rfl,Prod.ext h.1.2 h.1.1,Prod.ext h.2.2 h.2.1,hc⟩)
    |_=>simp only[Tm.k_mk] at h17;omega
   ·cases h
 ·simp only[zag,decide_eq_true_eq] at h
  exact .inl (Prod.ext h.2 h.1)
def Cl (x:Sc)(id:Int):Prop:=∃e,x.get id=some e/\e.ty.res.cell=true/\e.arg=false
theorem Cl.with {x:Sc}{id:Int}(h:Cl x id)(y:Se):Cl (x.with y) id:=by
 obtain⟨e,h1,h2⟩:=h
 exact⟨e,Sc.get_with h1,h2⟩
theorem Cl.size {x:Sc}{id n:Int}(h:Cl x id):Cl {x with size:=n} id:=h
theorem qmS {id:Int}(h0:1<=id):∀(d:Nat) (t:Tm) (x:Sc),t.size<=d->t.Ok->Cl x id->((szF x t).2=true\/∃b,qds szF x t b=true)->AllN (qnK id) t
 |0,t,_,h,_,_,_=>by have:=Tm.size_pos t;omega
 |d+1,t,x,hd,hok,hc,h=>by
  have hb:=Tm.Ok.big hok
  have IH:∀u∈t.ks,∀y,Cl y id->((szF y u).2=true\/∃b,qds szF y u b=true)->AllN (qnK id) u:=fun u hu y hy hs=>qmS h0 d u y (by have:=qa3 hu;omega) (hok.kids u hu) hy hs
  have harg:∀b,qds szF x t b=true->(szF x t).2=true\/(∃i,t=.cel i)\/(∃u w,t=.obj u w/\szF x u=(b.n,true)/\szF (x.with ⟨⟨[],⟨false,b.n⟩⟩,true⟩) w=(1,true)):=by
   intro b hb
   rcases qft hb with h|⟨i,e,h,_⟩|⟨u,w,h1,h2,h3,_⟩
   ·exact .inl (by rw[h])
   ·exact .inr (.inl ⟨i,h⟩)
   ·exact .inr (.inr ⟨u,w,h1,h2,h3⟩)
  have hcase:(szF x t).2=true\/(∃i,t=.cel i)\/(∃u w,∃b:Bs,t=.obj u w/\szF x u=(b.n,true)/\szF (x.with ⟨⟨[],⟨false,b.n⟩⟩,true⟩) w=(1,true)):=by
   rcases h with h|⟨b,h⟩
   ·exact .inl h
   ·rcases harg b h with h|h|⟨u,w,h⟩
    ·exact .inl h
    ·exact .inr (.inl h)
    ·exact .inr (.inr ⟨u,w,b,h⟩)
  obtain⟨e,he,hcl,hna⟩:=hc
  have hc:Cl x id:=⟨e,he,hcl,hna⟩
  rcases hcase with h|⟨i,rfl⟩|⟨u,w,b,rfl,h1,h2⟩
  ·have hsh:=qda h
   cases hsh with
   |num n m=>exact .mk ⟨fun hi=>by simp only[Tm.i_mk] at hi;omega,.num ..,hb⟩ fun u hu=>by cases hu
   |use i ks=>
    rw[qf9] at h
    refine .mk ⟨fun hi=>?_,.use ..,hb⟩ fun u hu=>?_
    ·simp only[Tm.i_mk] at hi
     subst hi
     rw[he] at h
     simp[hcl] at h
    ·simp only[zag] at h
     obtain⟨b,_,hf⟩:=qfS h.2.2.2 u hu
     exact IH u hu x hc (.inr ⟨b,hf⟩)
   |get i=>exact .mk ⟨fun hi=> .inl rfl,.get ..,hb⟩ fun u hu=>by cases hu
   |put i u=>
    rw[qeI,zag,is2_iff] at h
    exact .mk ⟨fun hi=> .inr (.inl rfl),.put ..,hb⟩ fun v hv=>by
     simp only[Tm.ks_mk,zaV] at hv
     subst hv
     exact IH v (by simp[Tm.ks]) x hc (.inl (by rw[h.2]))
   |op n m u w=>
    rw[qeE] at h
    have hin:is2 (szF x u) m=true/\is2 (szF x w) m=true:=by
     split at h
     ·simp only[zag] at h⊢;exact h.2
     ·split at h
      ·simp only[zag] at h⊢;exact h.2
      ·cases h
    rw[is2_iff,is2_iff] at hin
    exact .mk ⟨fun hi=>by simp only[Tm.i_mk] at hi;omega,.op ..,hb⟩ fun v hv=>by
     simp only[Tm.ks_mk,zaE,zaH,or_false] at hv
     rcases hv with rfl|rfl
     ·exact IH v (by simp[Tm.ks]) x hc (.inl (by rw[hin.1]))
     ·exact IH v (by simp[Tm.ks]) x hc (.inl (by rw[hin.2]))
   |az n u=>
    rw[qeF,zag] at h
    exact .mk ⟨fun hi=>by simp only[Tm.i_mk] at hi;omega,.az ..,hb⟩ fun v hv=>by
     simp only[Tm.ks_mk,zaV] at hv
     subst hv
     exact IH v (by simp[Tm.ks]) x hc (.inl h.1)
   |seq u w=>
    rw[qbY,zag,is2_iff] at h
    exact .mk ⟨fun hi=>by simp only[Tm.i_mk] at hi;omega,.seq ..,hb⟩ fun v hv=>by
     simp only[Tm.ks_mk,zaE,zaH,or_false] at hv
     rcases hv with rfl|rfl
     ·exact IH v (by simp[Tm.ks]) x hc (.inl (by rw[h.2]))
     ·exact IH v (by simp[Tm.ks]) x hc (.inl h.1)
   |ite c u w=>
    rw[qcv,zag,zag,is2_iff] at h
    exact .mk ⟨fun hi=>by simp only[Tm.i_mk] at hi;omega,.ite ..,hb⟩ fun v hv=>by
     simp only[Tm.ks_mk,zaE,zaH,or_false] at hv
     rcases hv with rfl|rfl|rfl
     ·exact IH v (by simp[Tm.ks]) x hc (.inl h.2)
     ·exact IH v (by simp[Tm.ks]) x hc (.inl h.1.1)
     ·exact IH v (by simp[Tm.ks]) x hc (.inl (by rw[h.1.2]))
   |whl u w=>
    rw[qfs,zag,is2_iff] at h
    exact .mk ⟨fun hi=>by simp only[Tm.i_mk] at hi;omega,.whl ..,hb⟩ fun v hv=>by
     simp only[Tm.ks_mk,zaE,zaH,or_false] at hv
     rcases hv with rfl|rfl
     ·exact IH v (by simp[Tm.ks]) x hc (.inl h.1)
     ·exact IH v (by simp[Tm.ks]) x hc (.inl (by rw[h.2]))
   |new n m u=>
    rw[qeJ,zag] at h
    exact .mk ⟨fun hi=>by simp only[Tm.i_mk] at hi;omega,.new ..,hb⟩ fun v hv=>by
     simp only[Tm.ks_mk,zaV] at hv
     subst hv
     exact IH v (by simp[Tm.ks]) _ (hc.with _) (.inl h.1)
   |lbl u w=>
    rw[qem,zag,is2_iff] at h
    exact .mk ⟨fun hi=>by simp only[Tm.i_mk] at hi;omega,.lbl ..,hb⟩ fun v hv=>by
     simp only[Tm.ks_mk,zaE,zaH,or_false] at hv
     rcases hv with rfl|rfl
     ·exact IH v (by simp[Tm.ks]) {x with size:=x.size+1} hc (.inl h.1)
     ·exact IH v (by simp[Tm.ks]) x hc (.inl (by rw[h.2]))
   |jmp n=>exact .mk ⟨fun hi=>by simp only[Tm.i_mk] at hi;omega,.jmp ..,hb⟩ fun u hu=>by cases hu
   |cho u w=>
    rw[qen,zag,is2_iff] at h
    exact .mk ⟨fun hi=>by simp only[Tm.i_mk] at hi;omega,.cho ..,hb⟩ fun v hv=>by
     simp only[Tm.ks_mk,zaE,zaH,or_false] at hv
     rcases hv with rfl|rfl
     ·exact IH v (by simp[Tm.ks]) x hc (.inl h.1)
     ·exact IH v (by simp[Tm.ks]) x hc (.inl (by rw[h.2]))
   |hang=>exact .mk ⟨fun hi=>by simp only[Tm.i_mk] at hi;omega,.hang,hb⟩ fun u hu=>by cases hu
   |val i=>
    rw[qhk] at h
    refine .mk ⟨fun hi=>?_,.val ..,hb⟩ fun u hu=>by cases hu
    simp only[Tm.i_mk] at hi
    subst hi
    rw[he] at h
    simp[hna] at h
   |cel i=>rw[qeK] at h;cases h
   |obj u w=>rw[qdM] at h;cases h
   |ntc n i u=>
    rw[qeo,zag] at h
    exact .mk ⟨fun hi=> .inr (.inr (.inl rfl)),.ntc ..,hb⟩ fun v hv=>by
     simp only[Tm.ks_mk,zaV] at hv
     subst hv
     exact IH v (by simp[Tm.ks]) x hc (.inl h.1)
  ·exact .mk ⟨fun hi=> .inr (.inr (.inr rfl)),.cel ..,hb⟩ fun u hu=>by cases hu
  ·exact .mk ⟨fun hi=>by simp only[Tm.i_mk] at hi;omega,.obj ..,hb⟩ fun v hv=>by
    simp only[Tm.ks_mk,zaE,zaH,or_false] at hv
    rcases hv with rfl|rfl
    ·exact IH v (by simp[Tm.ks]) x hc (.inl (by rw[h1]))
    ·exact IH v (by simp[Tm.ks]) _ (hc.with _) (.inl (by rw[h2]))
end Go.AI.Tryz
namespace Go.AI.Tryz
def okU (y:Nm):Bool:=!y.a&&(!y.p&&!y.h)
def qro (y:Nm):Bool:=y.a&&(!y.p&&!y.h)
def qrp (y:Nm):Bool:=!y.a&&(y.p&&!y.h)
theorem qw8 (y:Nm):PC CP 149 [y.v] (bl (okU y)):=by
 refine PC.of2 (cf:=cf149) (np:=1) (args':=[y.v]) (by kernel_rfl) (by kernel_rfl) rfl (by first|rfl|(simp only[zap,qal,qb6];rfl)) (by first|rfl|(simp only[zam,qai,qb7];rfl)) (fun lo=>by first|rfl|exact qaM lo _|exact qaR lo _|exact qce lo _ _) (Ev.mono (ev0) fun N _ E s=>⟨bl (okU y),s,(s149_eq _ _ _ _).trans ?_,(by first|rfl|exact qai _|exact qaN _|exact qb1 _ _)⟩)
 obtain⟨a,p,h⟩:=y
 cases a<;>cases p<;>cases h<;>rfl
theorem qvk (y:Nm):PC CP 150 [y.v] (bl (qro y)):=by
 refine PC.of2 (cf:=cf150) (np:=1) (args':=[y.v]) (by kernel_rfl) (by kernel_rfl) rfl (by first|rfl|(simp only[zap,qal,qb6];rfl)) (by first|rfl|(simp only[zam,qai,qb7];rfl)) (fun lo=>by first|rfl|exact qaM lo _|exact qaR lo _|exact qce lo _ _) (Ev.mono (ev0) fun N _ E s=>⟨bl (qro y),s,(s150_eq _ _ _ _).trans ?_,(by first|rfl|exact qai _|exact qaN _|exact qb1 _ _)⟩)
 obtain⟨a,p,h⟩:=y
 cases a<;>cases p<;>cases h<;>rfl
theorem qvl (y:Nm):PC CP 153 [y.v] (bl (qrp y)):=by
 refine PC.of2 (cf:=cf153) (np:=1) (args':=[y.v]) (by kernel_rfl) (by kernel_rfl) rfl (by first|rfl|(simp only[zap,qal,qb6];rfl)) (by first|rfl|(simp only[zam,qai,qb7];rfl)) (fun lo=>by first|rfl|exact qaM lo _|exact qaR lo _|exact qce lo _ _) (Ev.mono (ev0) fun N _ E s=>⟨bl (qrp y),s,(s153_eq _ _ _ _).trans ?_,(by first|rfl|exact qai _|exact qaN _|exact qb1 _ _)⟩)
 obtain⟨a,p,h⟩:=y
 cases a<;>cases p<;>cases h<;>rfl
theorem of_u:UC 136 (fun p:Int×Int×Int×List Tm=>[u8 p.1,i64 p.2.1,i64 p.2.2.1,kv p.2.2.2]) (fun _ _ _=>True) (fun p=>(Tm.mk p.1 p.2.1 p.2.2.1 0 p.2.2.2).v):=by
 refine UC.of (cf:=cf136) (np:=4) (by kernel_rfl) (by kernel_rfl) (fun _=>rfl) (fun _=>rfl) (fun _=>rfl) (fun _=>Stab.pure _) (fun p lo=>qaM lo _) (Ev.of fun n p E s _=>⟨(Tm.mk p.1 p.2.1 p.2.2.1 0 p.2.2.2).v,s,(s136_eq _ _ _ _ _ _ _).trans ?_,qai _⟩)
 obtain⟨k,n,m,l⟩:=p
 unfold s136
 have h:bd [u8 0,i64 0,i64 0,i64 0,.sl 0 [] .full] [(0,none,.c (u8 k)),(1,none,.c (i64 n)),(2,none,.c (i64 m)),(4,none,.c (kv l))]=some (Tm.mk k n m 0 l).v:=by rw[Tm.v_eq];rfl
 simp only[h,qah,qaS,qau,zaa]
theorem one_u:UC 142 (fun u:Tm=>[u.v]) (fun _ _ _=>True) (fun u=>(Tm.az 1 u).v):=by
 refine UC.of (cf:=cf142) (np:=1) (by kernel_rfl) (by kernel_rfl) (fun _=>rfl) (fun u=>by simp only[zap,qal];rfl) (fun u=>by simp only[zam,qai];rfl) (fun _=>Stab.pure _) (fun p lo=>qaM lo _) (of_u.mono fun n h u E s _=>⟨(Tm.az 1 u).v,s,(s142_eq _ _ _ _).trans ?_,qai _⟩)
 have h':=qnH (E:=E) 6 1 0 [u] .full (fun E s=>h (6,1,0,[u]) E s trivial) s
 simp only[zar,zaC,zaF] at h'
 unfold s142
 simp only[qpk,h',qah,qaS,qau,zaa,qab]
theorem qw9 (y:Vw):UC 151 (fun p:Tm×Nat=>[p.1.v,.ptr p.2 0]) (fun p E s=>qas E s p.2=some y.c) (fun _=>(Tm.num y.t.m y.t.n).v):=by
 refine UC.of (cf:=cf151) (np:=2) (by kernel_rfl) (by kernel_rfl) (fun _=>rfl) (fun _=>by simp only[zap,qal];rfl) (fun _=>by simp only[zam,qai];rfl) (fun p=>Stab.at p.2 _) (fun p lo=>qaM lo _) ((qpl y.t.m y.t.n).mono fun n h p E s hc=>⟨(Tm.num y.t.m y.t.n).v,s,(s151_eq _ _ _ _ _).trans ?_,qai _⟩)
 have hc':qas (qag CP n E).E s p.2=some y.c:=by rw[qa7];exact hc
 unfold s151
 simp only[ldP hc',zaF,h,qah,qaS,qau,qkI,qqr,zaa,qab,qbv]
theorem wr1_u:UC 152 (fun t:Tm=>[t.v]) (fun t _ _=>(t.k=4\/t.k=18)/\∃u,t.ks=[u]) (fun t=>(b1F .z t).v):=by
 refine UC.of (cf:=cf152) (np:=1) (by kernel_rfl) (by kernel_rfl) (fun _=>rfl) (fun u=>by simp only[zap,qal];rfl) (fun u=>by simp only[zam,qai];rfl) (fun _=>Stab.pure _) (fun p lo=>qaM lo _) (one_u.mono fun n h t E s ⟨hk,u,hu⟩=>⟨(b1F .z t).v,s,(s152_eq _ _ _ _).trans ?_,qai _⟩)
 obtain⟨i0,l0⟩:=qb5 (n:=n) (E:=E) (l:=[u]) (u:=u) rfl
 unfold s152 b1F
 rcases hk with hk|hk
 ·simp only[hk,hu,i0,l0,h u E s trivial,zbh,if_true,if_false,qah,qaS,qba,qbj,qau,qad,qaf,zaj,decide_false,qaa,cond_false,zab,zaa,qab]
 ·simp only[hk,hu,i0,l0,zbh,if_false,qah,qaS,qba,qbj,qau,qad,qaf,zaj,decide_true,qaa,cond_true,zab,zaa,qab]
abbrev ini (t:Tm):Tm:=.num t.m t.n
abbrev cid (x:Sc):Int:=Int.ofNat x.ids.length+1
theorem qjo (x:Sc):1<=cid x:=by
 have:(0:Int)<=Int.ofNat x.ids.length:=Int.natCast_nonneg _
 show(1:Int)<=Int.ofNat x.ids.length+1
 omega
theorem qhq {x:Sc}{t u:Tm}(g:Gd x t)(hk:t.k=10)(hu:t.ks=[u]):AllN (qnK (cid x)) u/\u.size<=t.size/\u.Ok:=by
 have hsz:=g.sz (by omega) (by omega)
 have hm:u∈t.ks:=by rw[hu];exact zav ..
 have hlt:=qa3 hm
 refine⟨?_,by omega,g.ok.kids u hm⟩
 have gsh:=g.sh
 cases gsh with
 |new n m v=>
  simp only[Tm.ks_mk,List.cons.injEq,and_true] at hu
  subst hu
  rw[qeJ,zag] at hsz
  exact qmS (qjo x) v.size v _ (zan _) (g.ok.kids v hm) ⟨_,Sc.get_last,rfl,rfl⟩ (.inl hsz.1)
 |_=>simp only[Tm.k_mk] at hk;omega
theorem qvm (id:Int)(t:Tm)(l l':Int):isA id t l=isA id t l':=rfl
theorem qvn (id:Int)(t:Tm)(l l':Int):isP id t l=isP id t l':=rfl
theorem qtv (id:Int)(t:Tm)(l l':Int):isH id t l=isH id t l':=rfl
def PbU (id:Int)(t:Tm):Prop:=t.i≠id/\Big t
def PbR (id:Int)(t:Tm):Prop:=(t.i=id->t.k=3/\t.ks=[])/\Big t
def PbW (id:Int)(t:Tm):Prop:=(t.i=id->(t.k=4/\t.n=0/\t.m=0/\∃u,t.ks=[u])\/(t.k=18/\∃u,t.ks=[u]))/\Big t
theorem qvo {t:Tm}(h:Sh t)(hk:t.k=3):t.ks=[]:=by
 cases h with
 |get i=>rfl
 |_=>simp only[Tm.k_mk] at hk;omega
theorem qvp {t:Tm}(h:Sh t)(hk:t.k=4):t.n=0/\t.m=0/\∃u,t.ks=[u]:=by
 cases h with
 |put i u=>exact⟨rfl,rfl,u,rfl⟩
 |_=>simp only[Tm.k_mk] at hk;omega
theorem qvq {t:Tm}(h:Sh t)(hk:t.k=18):∃u,t.ks=[u]:=by
 cases h with
 |ntc n i u=>exact⟨u,rfl⟩
 |_=>simp only[Tm.k_mk] at hk;omega
theorem allU {id:Int}{u:Tm}(h:AllN (qnK id) u)(hok:okU (qe8 id u)=true):AllN (PbU id) u:=by
 simp only[okU,qe8,zag,za0] at hok
 obtain⟨h1,h2,h3⟩:=hok
 refine(((qd2 (qvm id) h1).and (qd2 (qvn id) h2)).and ((qd2 (qtv id) h3).and h)).imp fun t ⟨⟨a,p⟩,q,hc,hsh,hb⟩=>⟨fun hi=>?_,hb⟩
 simp only[isA,isP,isH,hi,decide_true,zax,zaU,decide_eq_false_iff_not] at a p q
 rcases hc hi with k|k|k|k
 ·exact a k
 ·exact p.1 k
 ·exact p.2 k
 ·exact q k
theorem allR {id:Int}{u:Tm}(h:AllN (qnK id) u)(hok:qro (qe8 id u)=true):AllN (PbR id) u:=by
 simp only[qro,qe8,zag,za0] at hok
 obtain⟨_,h2,h3⟩:=hok
 refine(((qd2 (qvn id) h2)).and ((qd2 (qtv id) h3).and h)).imp fun t ⟨p,q,hc,hsh,hb⟩=>⟨fun hi=>?_,hb⟩
 simp only[isP,isH,hi,decide_true,zax,zaU,decide_eq_false_iff_not] at p q
 rcases hc hi with k|k|k|k
 ·exact⟨k,qvo hsh k⟩
 ·exact absurd k p.1
 ·exact absurd k p.2
 ·exact absurd k q
theorem allW {id:Int}{u:Tm}(h:AllN (qnK id) u)(hok:qrp (qe8 id u)=true):AllN (PbW id) u:=by
 simp only[qrp,qe8,zag,za0] at hok
 obtain⟨h1,_,h3⟩:=hok
 refine(((qd2 (qvm id) h1)).and ((qd2 (qtv id) h3).and h)).imp fun t ⟨a,q,hc,hsh,hb⟩=>⟨fun hi=>?_,hb⟩
 simp only[isA,isH,hi,decide_true,zax,decide_eq_false_iff_not] at a q
 rcases hc hi with k|k|k|k
 ·exact absurd k a
 ·exact .inl ⟨k,qvp hsh k⟩
 ·exact .inr ⟨k,qvq hsh k⟩
 ·exact absurd k q
def qfT (x:Sc)(t:Tm):Option Tm:=clR x okU (ini t) t
def qnL (x:Sc)(t:Tm):Option Tm:=clR x qro (ini t) t
def qiw (x:Sc)(t:Tm):Option Tm:=clR x qrp (ini t) t
theorem qrq (x:Sc)(t:Tm)(g:Gd x t)(hs:t.size<=900000):RuC 85 x t (qfT x t):=by
 have hcl:=qfR (ι:=Unit) (bv:=fun _=> .p .nilFunc) (Cb:=fun _ _ _=>True) (val:=ini t) x t g hs 149 okU qw8 (fun _=>rfl) (fun _=>rfl) (fun _=>Stab.pure _) (fun u hk hu hok=>by
  obtain⟨h1,h2,h3⟩:=qhq g hk hu
  exact qhp (ι:=Unit) (bv:=fun _=> .p .nilFunc) (Cb:=fun _ _ _=>True) (Pb:=PbU (cid x)) (id:=cid x) (val:=ini t) ⟨rfl,rfl,rfl⟩ (qjo x) (fun t h=>⟨fun hi=>absurd hi h.1,h.2⟩) (fun _=>Stab.pure _) (fun _ _ _ _ _=>trivial) (fun _ _ _ _ _ _ _=>trivial) (fun _=>rfl) (fun _=>rfl) (fun _=>rfl) (fun _=>rfl) u (by omega) (allU h1 hok)
   (Ev.of fun n p E s t _ h hi=>absurd hi h.1))
 refine RuC.of (cf:=cf85) (by kernel_rfl) (by kernel_rfl) (hcl.mono fun N h E s=>⟨s,(s85_eq _ _ _ _).trans ?_⟩)
 have h':cl (qag CP N E) 148 [(vw x t).v,.p (.func 149 [] []),.p .nilFunc] s=some (qcM (qfT x t),s):=h () E s trivial
 unfold s85
 simp only[h',qah,qaS,qau,qaH,qch,zaa,qab,qan,qaw,qax,qaB]
theorem qvr (x:Sc)(t:Tm)(g:Gd x t)(hs:t.size<=900000):RuC 86 x t (qnL x t):=by
 have hcl:=qfR (ι:=Nat) (bv:=fun l=> .func 151 [] [.ptr l 0]) (Cb:=fun l E s=>qas E s l=some (vw x t).c/\l<s.next) (val:=ini t) x t g hs 150 qro qvk (fun _=>rfl) (fun _=>rfl) (fun l=>(Stab.at l _).and (fun E s h=>h)) (fun u hk hu hok=>by
  obtain⟨h1,h2,h3⟩:=qhq g hk hu
  exact qhp (ι:=Nat) (bv:=fun l=> .func 151 [] [.ptr l 0]) (Cb:=fun l E s=>qas E s l=some (vw x t).c/\l<s.next) (Pb:=PbR (cid x)) (id:=cid x) (val:=ini t) ⟨rfl,rfl,rfl⟩ (qjo x) (fun t h=>⟨fun hi=> .inl (h.1 hi),h.2⟩) (fun l=>(Stab.at l _).and (fun E s h=>h))
   (fun l E s o h=>⟨by
    have:=qbB (E:=E) (s:=qak s o) (l:=l) (m:=s.next) (o:=o) (H:=s.heap) rfl (by omega)
    rw[this]
    exact h.1,Nat.lt_succ_of_lt h.2⟩) (fun l E s s' h e1 e2=>⟨by rw[qeq e1];exact h.1,by rw[e2];exact h.2⟩) (fun _=>rfl) (fun _=>rfl) (fun _=>rfl) (fun _=>rfl) u (by omega) (allR h1 hok)
   (((qw9 (vw x t)).and (Ev.ge 1)).mono fun n ⟨h,hn⟩ l E s t' hc hp hi=>by
    rw[qhS CP hn]
    have e:b1F (ini t) t'=ini t:=by unfold b1F;rw[if_pos (hp.1 hi).1]
    rw[e]
    exact h (t',l) E s hc.1))
 refine RuC.of (cf:=cf86) (by kernel_rfl) (by kernel_rfl) (hcl.mono fun N h E s=>⟨qak s (.cells (vw x t).c),(s86_eq _ _ _ _).trans ?_⟩)
 have h':cl (qag CP N E) 148 [(vw x t).v,.p (.func 150 [] []),.func 151 [] [.ptr s.next 0]] (qak s (.cells (vw x t).c))=some (qcM (qnL x t),qak s (.cells (vw x t).c)):=h s.next E _ ⟨qaP _ _ _,Nat.lt_succ_self _⟩
 unfold s86
 simp only[h',qah,qaS,qau,qaH,qch,qdj,zaa,qab,qan,qaw,qax,qbd,qbx,cnd,qcR,qaB]
theorem qtw (x:Sc)(t:Tm)(g:Gd x t)(hs:t.size<=900000):RuC 87 x t (qiw x t):=by
 have hcl:=qfR (ι:=Unit) (bv:=fun _=> .p (.func 152 [] [])) (Cb:=fun _ _ _=>True) (val:=ini t) x t g hs 153 qrp qvl (fun _=>rfl) (fun _=>rfl) (fun _=>Stab.pure _) (fun u hk hu hok=>by
  obtain⟨h1,h2,h3⟩:=qhq g hk hu
  exact qhp (ι:=Unit) (bv:=fun _=> .p (.func 152 [] [])) (Cb:=fun _ _ _=>True) (Pb:=PbW (cid x)) (id:=cid x) (val:=ini t) ⟨rfl,rfl,rfl⟩ (qjo x) (fun t h=>⟨fun hi=> .inr (h.1 hi),h.2⟩) (fun _=>Stab.pure _) (fun _ _ _ _ _=>trivial) (fun _ _ _ _ _ _ _=>trivial) (fun _=>rfl) (fun _=>rfl) (fun _=>rfl) (fun _=>rfl) u (by omega) (allW h1 hok)
   ((wr1_u.and (Ev.ge 1)).mono fun n ⟨h,hn⟩ p E s t' _ hp hi=>by
    rw[qhi CP hn]
    have hq:=hp.1 hi
    have e:b1F (ini t) t'=b1F .z t':=by
     unfold b1F
     have:¬t'.k=3:=by rcases hq with h|h<;>omega
     rw[if_neg this,if_neg this]
    rw[e]
    refine h t' E s ?_
    rcases hq with⟨k,_,_,u⟩|⟨k,u⟩
    ·exact⟨.inl k,u⟩
    ·exact⟨.inr k,u⟩))
 refine RuC.of (cf:=cf87) (by kernel_rfl) (by kernel_rfl) (hcl.mono fun N h E s=>⟨s,(s87_eq _ _ _ _).trans ?_⟩)
 have h':cl (qag CP N E) 148 [(vw x t).v,.p (.func 153 [] []),.p (.func 152 [] [])] s=some (qcM (qiw x t),s):=h () E s trivial
 unfold s87
 simp only[h',qah,qaS,qau,qaH,qch,zaa,qab,qan,qaw,qax,qaB]
end Go.AI.Tryz
namespace Go.AI
def qbF {σ α:Type}(f:σ->α->σ×Bool):σ->List α->σ×Bool
 |x,[]=>(x,true)
 |x,a::r=>if(f x a).2 then qbF f (f x a).1 r else((f x a).1,false)
theorem qer {σ α:Type}(f:σ->α->σ×Bool):∀(l m:List α) (x:σ),qbF f x (l++m)=if(qbF f x l).2 then qbF f (qbF f x l).1 m else((qbF f x l).1,false)
 |[],m,x=>by simp only[zaQ,qbF,if_true]
 |a::l,m,x=>by
  simp only[zaP,qbF]
  split
  ·exact qer f l m _
  ·simp only[zai,if_false]
end Go.AI
namespace Go.AI.Tryz
def ScOk (x:Sc):Prop:=∀e∈x.ids,1<=e.ty.res.n/\e.ty.res.n<=64
theorem ScOk.get {x:Sc}(h:ScOk x){i:Int}{e:Se}(he:x.get i=some e):1<=e.ty.res.n/\e.ty.res.n<=64:=by
 obtain⟨j,_,hj⟩:=Sc.get_inv he
 exact h e (zaN hj)
theorem ScOk.with {x:Sc}(h:ScOk x){y:Se}(hy:1<=y.ty.res.n/\y.ty.res.n<=64):ScOk (x.with y):=by
 intro e he
 simp only[Sc.with,zaO,zaV] at he
 rcases he with he|rfl
 ·exact h e he
 ·exact hy
theorem qfu:∀(d:Nat) (t:Tm) (x:Sc),t.size<=d->ScOk x->(szF x t).2=true->1<=(szF x t).1/\(szF x t).1<=64
 |0,t,_,h,_,_=>by have:=Tm.size_pos t;omega
 |d+1,t,x,hd,hx,h=>by
  have IH:∀u∈t.ks,∀y,ScOk y->(szF y u).2=true->1<=(szF y u).1/\(szF y u).1<=64:=fun u hu y hy hs=>qfu d u y (by have:=qa3 hu;omega) hy hs
  cases qda h with
  |num n m=>rw[qdv] at h⊢;simp only[zag,isSize_iff] at h;exact h.1
  |use i ks=>
   rw[qf9] at h⊢
   cases he:x.get i with
   |none=>rw[he] at h;cases h
   |some e=>exact hx.get he
  |get i=>
   rw[qhj] at h⊢
   cases he:x.get i with
   |none=>rw[he] at h;cases h
   |some e=>exact hx.get he
  |val i=>
   rw[qhk] at h⊢
   cases he:x.get i with
   |none=>rw[he] at h;cases h
   |some e=>exact hx.get he
  |put i u=>rw[qeI];exact⟨Int.le_refl _,by show(1:Int)<=64;omega⟩
  |whl u w=>rw[qfs];exact⟨Int.le_refl _,by show(1:Int)<=64;omega⟩
  |jmp n=>rw[qit];exact⟨Int.le_refl _,by show(1:Int)<=64;omega⟩
  |hang=>rw[qhl];exact⟨Int.le_refl _,by show(1:Int)<=64;omega⟩
  |op n m u w=>
   rw[qeE] at h⊢
   split at h
   ·simp only[zag,isSize_iff] at h;rename_i h1;simp only[h1,if_true];exact h.1
   ·split at h
    ·rename_i h1 h2;simp only[h1,h2,if_false,if_true];exact⟨by omega,by omega⟩
    ·cases h
  |az n u=>rw[qeF] at h⊢;simp only[zag,isSize_iff] at h;exact h.2
  |seq u w=>rw[qbY] at h⊢;simp only[zag] at h;exact IH w (by simp[Tm.ks]) x hx h.1
  |ite c u w=>rw[qcv] at h⊢;simp only[zag] at h;exact IH u (by simp[Tm.ks]) x hx h.1.1
  |new n m u=>
   rw[qeJ] at h⊢
   simp only[zag,isSize_iff] at h
   exact IH u (by simp[Tm.ks]) _ (hx.with h.2.1) h.1
  |lbl u w=>rw[qem] at h⊢;simp only[zag] at h;exact IH u (by simp[Tm.ks]) {x with size:=x.size+1} hx h.1
  |cho u w=>rw[qen] at h⊢;simp only[zag] at h;exact IH u (by simp[Tm.ks]) x hx h.1
  |ntc n i u=>rw[qeo] at h⊢;simp only[zag] at h;exact IH u (by simp[Tm.ks]) x hx h.1
  |cel i=>rw[qeK] at h;cases h
  |obj u w=>rw[qdM] at h;cases h
structure Nd (x:Sc)(t:Tm):Prop where
 w:(szF x t).2=true\/∃b,qds szF x t b=true
 b:x.B t.size
 ok:t.Ok
 sc:ScOk x
theorem Nd.sh {x:Sc}{t:Tm}(h:Nd x t):Sh t:=by
 rcases h.w with h|⟨b,h⟩
 ·exact qda h
 ·rcases qft h with h|⟨i,e,rfl,_⟩|⟨u,w,rfl,_⟩
  ·exact qda (by rw[h])
  ·exact .cel i
  ·exact .obj u w
theorem Nd.gd {x:Sc}{t:Tm}(h:Nd x t):Gd x t:=by
 refine⟨h.sh,h.b,fun h1 h2=>?_,h.ok⟩
 rcases h.w with h|⟨b,h⟩
 ·exact h
 ·rcases qft h with h|⟨i,e,rfl,_⟩|⟨u,w,rfl,_⟩
  ·rw[h]
  ·exact absurd rfl h1
  ·exact absurd rfl h2
theorem Nd.size {x:Sc}{t:Tm}(h:Nd x t):t.size<=1000000:=by have:=h.b.1;omega
theorem qvs {x:Sc}{t u:Tm}{j:Nat}(h:x.B t.size)(hu:t.ks[j]? =some u):(x.kid t j).B u.size:=by
 have hlt:=qa3 (zaN hu)
 unfold Sc.kid
 split
 ·exact qhe h hlt
 ·split
  ·exact qhe h hlt
  ·split
   ·obtain⟨h1,h2,h3⟩:=h
    exact⟨by show x.ids.length+_<=_;omega,by show 0<=x.size+1;omega,by show x.size+1+_<=_;omega⟩
   ·exact qmM h hlt
theorem Nd.kid {x:Sc}{t u:Tm}{j:Nat}(h:Nd x t)(hu:t.ks[j]? =some u):Nd (x.kid t j) u:=by
 have hm:=zaN hu
 have hb:=qvs h.b hu
 have hok:=h.ok.kids u hm
 have hB:=h.b
 have hOk:=h.ok
 have fin:∀y,y=x.kid t j->((szF y u).2=true\/∃b,qds szF y u b=true)->ScOk y->Nd (x.kid t j) u:=by
  rintro y rfl h1 h2
  exact⟨h1,hb,hok,h2⟩
 have sc:=h.sc
 have hw:(szF x t).2=true\/(∃i,t=.cel i)\/(∃v w,∃b:Bs,t=.obj v w/\szF x v=(b.n,true)/\szF (x.with ⟨⟨[],⟨false,b.n⟩⟩,true⟩) w=(1,true)):=by
  rcases h.w with h|⟨b,h⟩
  ·exact .inl h
  ·rcases qft h with h1|⟨i,e,h1,_⟩|⟨v,w,h1,h2,h3,_⟩
   ·exact .inl (by rw[h1])
   ·exact .inr (.inl ⟨i,h1⟩)
   ·exact .inr (.inr ⟨v,w,b,h1,h2,h3⟩)
 clear h
 rcases hw with h|⟨i,rfl⟩|⟨v,w,b,rfl,h1,h2⟩
 ·cases qda h with
  |num n m=>simp[Tm.ks] at hu
  |use i ks=>
   rw[qf9] at h
   simp only[zag] at h
   obtain⟨b,_,hf⟩:=qfS h.2.2.2 u hm
   exact fin x (by simp[Sc.kid,Tm.k]) (.inr ⟨b,hf⟩) sc
  |get i=>simp[Tm.ks] at hu
  |put i v=>
   rw[qeI,zag,is2_iff] at h
   have:u=v:=by simpa[Tm.ks] using hm
   subst this
   exact fin x (by simp[Sc.kid,Tm.k]) (.inl (by rw[h.2])) sc
  |op n m v w=>
   rw[qeE] at h
   have hin:is2 (szF x v) m=true/\is2 (szF x w) m=true:=by
    split at h
    ·simp only[zag] at h⊢;exact h.2
    ·split at h
     ·simp only[zag] at h⊢;exact h.2
     ·cases h
   rw[is2_iff,is2_iff] at hin
   have hc:u=v\/u=w:=by simpa[Tm.ks] using hm
   rcases hc with rfl|rfl
   ·exact fin x (by simp[Sc.kid,Tm.k]) (.inl (by rw[hin.1])) sc
   ·exact fin x (by simp[Sc.kid,Tm.k]) (.inl (by rw[hin.2])) sc
  |az n v=>
   rw[qeF,zag] at h
   have:u=v:=by simpa[Tm.ks] using hm
   subst this
   exact fin x (by simp[Sc.kid,Tm.k]) (.inl h.1) sc
  |seq v w=>
   rw[qbY,zag,is2_iff] at h
   have hc:u=v\/u=w:=by simpa[Tm.ks] using hm
   rcases hc with rfl|rfl
   ·exact fin x (by simp[Sc.kid,Tm.k]) (.inl (by rw[h.2])) sc
   ·exact fin x (by simp[Sc.kid,Tm.k]) (.inl h.1) sc
  |ite c v w=>
   rw[qcv,zag,zag,is2_iff] at h
   have hc:u=c\/u=v\/u=w:=by simpa[Tm.ks] using hm
   rcases hc with rfl|rfl|rfl
   ·exact fin x (by simp[Sc.kid,Tm.k]) (.inl h.2) sc
   ·exact fin x (by simp[Sc.kid,Tm.k]) (.inl h.1.1) sc
   ·exact fin x (by simp[Sc.kid,Tm.k]) (.inl (by rw[h.1.2])) sc
  |whl v w=>
   rw[qfs,zag,is2_iff] at h
   have hc:u=v\/u=w:=by simpa[Tm.ks] using hm
   rcases hc with rfl|rfl
   ·exact fin x (by simp[Sc.kid,Tm.k]) (.inl h.1) sc
   ·exact fin x (by simp[Sc.kid,Tm.k]) (.inl (by rw[h.2])) sc
  |new n m v=>
   rw[qeJ,zag,zag,isSize_iff] at h
   have:u=v:=by simpa[Tm.ks] using hm
   subst this
   exact fin _ (by simp[Sc.kid,Tm.k,Tm.n]) (.inl h.1) (sc.with h.2.1)
  |lbl v w=>
   rw[qem,zag,is2_iff] at h
   match j,hu with
   |0,hu=>
    have:u=v:=by simpa[Tm.ks] using hu.symm
    subst this
    exact fin {x with size:=x.size+1} (by simp[Sc.kid,Tm.k]) (.inl h.1) sc
   |1,hu=>
    have:u=w:=by simpa[Tm.ks] using hu.symm
    subst this
    exact fin x (by simp[Sc.kid,Tm.k]) (.inl (by rw[h.2])) sc
   |j+2,hu=>simp[Tm.ks] at hu
  |jmp n=>simp[Tm.ks] at hu
  |cho v w=>
   rw[qen,zag,is2_iff] at h
   have hc:u=v\/u=w:=by simpa[Tm.ks] using hm
   rcases hc with rfl|rfl
   ·exact fin x (by simp[Sc.kid,Tm.k]) (.inl h.1) sc
   ·exact fin x (by simp[Sc.kid,Tm.k]) (.inl (by rw[h.2])) sc
  |hang=>simp[Tm.ks] at hu
  |val i=>simp[Tm.ks] at hu
  |cel i=>simp[Tm.ks] at hu
  |obj v w=>rw[qdM] at h;cases h
  |ntc n i v=>
   rw[qeo,zag] at h
   have:u=v:=by simpa[Tm.ks] using hm
   subst this
   exact fin x (by simp[Sc.kid,Tm.k]) (.inl h.1) sc
 ·simp[Tm.ks] at hu
 ·match j,hu with
  |0,hu=>
   have:u=v:=by simpa[Tm.ks] using hu.symm
   subst this
   exact fin x (by simp[Sc.kid,Tm.k]) (.inl (by rw[h1])) sc
  |1,hu=>
   have:u=w:=by simpa[Tm.ks] using hu.symm
   subst this
   have hr:=qfu _ v x (zan _) sc (by rw[h1])
   rw[h1] at hr
   exact fin (x.with ⟨⟨[],⟨false,b.n⟩⟩,true⟩) (by simp[Sc.kid,Tm.k,Tm.ks,h1]) (.inl (by rw[h2])) (sc.with hr)
  |j+2,hu=>simp[Tm.ks] at hu
def qbm (i:Nat)(x:Sc)(t:Tm):Option Tm:=
 match i with
 |0=>opR x t|1=>asR t|2=>qhT x t|3=>qcU t|4=>qhU t|5=>ifR t|6=>qhV t|7=>qnJ t|8=>qhW x t|9=>qhX t|10=>qfP t|11=>qfQ x t
 |12=>qeM t|13=>qfT x t|14=>qnL x t|15=>qiw x t|16=>qdO x t|17=>qeN t|18=>qhY t|19=>qdF x t|20=>qdE t|21=>qep t
 |_=>none
theorem qvt {x:Sc}{t:Tm}(h:Nd x t)(hs:t.size<=900000):∀i,i<22->RuC (72+i) x t (qbm i x t)
 |0,_=>op_c x t h.gd
 |1,_=>as_c x t h.sh fun hk=>by
  have:=h.gd.sz (by omega) (by omega)
  cases h.sh with
  |az n u=>rw[qeF,zag,isSize_iff] at this;show n≠0;omega
  |_=>simp only[Tm.k_mk] at hk;omega
 |2,_=>qtg x t h.gd
 |3,_=>qpn x t h.gd
 |4,_=>qvc x t h.gd
 |5,_=>if_c x t h.gd
 |6,_=>qtk x t h.gd
 |7,_=>qw4 x t h.gd
 |8,_=>qve x t h.gd
 |9,_=>qvf x t h.gd
 |10,_=>qvg x t h.gd
 |11,_=>by
  by_cases hk:t.k=16\/t.k=17
  ·have hsh:=h.sh
   refine qsf x t h.gd ?_
   rcases hk with hk|hk
   ·cases hsh with
    |cel i=>rw[qeK];exact .mk (by omega) (by omega) (by show _/\(0:Int)<=_;omega) (by omega) (by simp) (fun _ h=>by cases h)
    |_=>simp only[Tm.k_mk] at hk;omega
   ·cases hsh with
    |obj u w=>rw[qdM];exact .mk (by omega) (by omega) (by show _/\(0:Int)<=_;omega) (by omega) (by simp) (fun _ h=>by cases h)
    |_=>simp only[Tm.k_mk] at hk;omega
  ·have hsz:=h.gd.sz (by omega) (by omega)
   have:=qfu _ t x (zan _) h.sc hsz
   exact qsf x t h.gd (.mk (by omega) (by omega) (by omega) (by omega) (by simp) (fun _ h=>by cases h))
 |12,_=>qtm x t h.gd
 |13,_=>qrq x t h.gd hs
 |14,_=>qvr x t h.gd hs
 |15,_=>qtw x t h.gd hs
 |16,_=>qto x t h.gd
 |17,_=>qtr x t h.gd hs
 |18,_=>qvh x t h.gd
 |19,_=>qrm x t h.gd hs
 |20,_=>qrh x t h.gd
 |21,_=>qtn x t h.gd
 |_+22,h=>absurd h (by omega)
mutual
def qbp:Tm->Sc->List (Sc×Tm)
 |.mk k n m i ks,x=>(x,.mk k n m i ks)::qbf (fun j=>x.kid (.mk k n m i ks) j) 0 ks
def qbf (sc:Nat->Sc):Nat->List Tm->List (Sc×Tm)
 |_,[]=>[]
 |j,u::r=>qbp u (sc j)++qbf sc (j+1) r
end
theorem qcV (t:Tm)(x:Sc):qbp t x=(x,t)::qbf (fun j=>x.kid t j) 0 t.ks:=by cases t;rw[qbp];rfl
theorem qfv:∀(d:Nat) (t:Tm) (x:Sc),t.size<=d->Nd x t->∀p∈qbp t x,Nd p.1 p.2/\p.2.size<=t.size
 |0,t,_,h,_=>by have:=Tm.size_pos t;omega
 |d+1,t,x,hd,h=>by
  have hk:∀(r done:List Tm) (j:Nat),t.ks=done++r->done.length=j->∀p∈qbf (fun j=>x.kid t j) j r,Nd p.1 p.2/\p.2.size<=t.size:=by
   intro r
   induction r with
   |nil=>intro done j _ _ p hp;simp only[qbf] at hp;cases hp
   |cons u r ih=>
    intro done j he hl p hp
    simp only[qbf,zaO] at hp
    have hu:t.ks[j]? =some u:=by rw[he,zaA (by omega),hl];simp
    have hlt:=qa3 (zaN hu)
    rcases hp with hp|hp
    ·obtain⟨h1,h2⟩:=qfv d u _ (by omega) (h.kid hu) p hp
     exact⟨h1,by omega⟩
    ·exact ih (done++[u]) (j+1) (by rw[he];simp) (by simp[hl]) p hp
  intro p hp
  rw[qcV,zaE] at hp
  rcases hp with rfl|hp
  ·exact⟨h,zan _⟩
  ·exact hk t.ks [] 0 rfl rfl p hp
end Go.AI.Tryz
namespace Go.AI
theorem qdP {α:Type}{l:Nat}:∀{pre H:List (Nat×α)},(∀x∈pre,x.1≠l)->qar (pre++H) l=qar H l
 |[],_,_=>rfl
 |(k,v)::pre,H,h=>by
  simp only[zaP,qar]
  rw[show Nat.beq k l=false from Tryz.beq_false (h _ (zav ..)),cond_false]
  exact qdP fun x hx=>h x (zaw _ hx)
theorem qdw {α:Type}{l:Nat}{v:α}:∀{pre H:List (Nat×α)},(∀x∈pre,x.1≠l)->qaK (pre++H) l v=(qaK H l v).map (pre++·)
 |[],H,_=>by cases h:qaK H l v<;>simp[h]
 |(k,w)::pre,H,h=>by
  simp only[zaP,qaK]
  rw[show Nat.beq k l=false from Tryz.beq_false (h _ (zav ..)),cond_false,qdw fun x hx=>h x (zaw _ hx)]
  cases qaK H l v<;>rfl
theorem qe2 {E:qaU}{s:ASt}{l:Nat}{pre H:qaU}(h:s.heap=pre++H)(hp:∀x∈pre,x.1≠l):qas E s l=qdl E H l:=by
 unfold qdl qas
 rw[h,qdP hp]
end Go.AI
namespace Go.AI.Tryz
section
variable {κ σ:Type} {R:κ->σ->qaU->ASt->Prop} {fv:κ->zA} {f:σ->Sc×Tm->σ×Bool} {NS:List (Sc×Tm)} {live:Nat->σ->Prop}
def qvu (live:Nat->σ->Prop)(R:κ->σ->qaU->ASt->Prop)(fv:κ->zA)(f:σ->Sc×Tm->σ×Bool)(NS:List (Sc×Tm))(n:Nat):Prop:=∀q y E s m,∀p∈NS,R q y E s->live (m+22) y->∃s',clv (qag CP n E) (fv q) [(vw p.1 p.2).v] s=some (bl (f y p).2,s')/\R q (f y p).1 E s'/\((f y p).2=true->live m (f y p).1)
def qxA (NS:List (Sc×Tm))(n:Nat):Prop:=∀p∈NS,∀(j:Nat) u,p.2.ks[j]? =some u->∀E s,cl (qag CP n E) 132 [(vw p.1 p.2).v,i64 (.ofNat j)] s=some ((vw (p.1.kid p.2 j) u).v,s)
theorem qsi (ha:∀q,qbG (fv q)=true)(he:∀q,qaF (fv q)=fv q)(hf:Ev fun n=>qvu live R fv f NS n)(hk:Ev fun n=>qxA NS n):
  ∀d,d<=1000000->Ev fun n=>∀q (t:Tm) x,t.size<=d->(∀p∈qbp t x,p∈NS)->∀y E s m,R q y E s->live (m+22*t.size) y->∃s',cl (qag CP n E) 95 [(vw x t).v,fv q] s=some (bl (qbF f y (qbp t x)).2,s')/\R q (qbF f y (qbp t x)).1 E s'/\((qbF f y (qbp t x)).2=true->live m (qbF f y (qbp t x)).1)
 |0,_=>Ev.of fun n q t x h=>by have:=Tm.size_pos t;omega
 |d+1,hd=>by
  refine Ev.succ (((hf.and hk).and ((qsi ha he hf hk d (by omega)).and (Ev.ge (d+3)))).mono fun n ⟨⟨hf,hk⟩,ih,hn⟩ q t x hsz hmem y E s m hr hlv=>?_)
  suffices ∃s',s95 (qag CP n E) n (vw x t).v (fv q) s=some (bl (qbF f y (qbp t x)).2,s')/\R q (qbF f y (qbp t x)).1 E s'/\((qbF f y (qbp t x)).2=true->live m (qbF f y (qbp t x)).1) by
   obtain⟨s',e1,e2,e3⟩:=this
   refine⟨s',?_,e2,e3⟩
   rw[qb0]
   exact qfn (cf:=cf95) (np:=2) (args':=[(vw x t).v,fv q]) (v:=bl (qbF f y (qbp t x)).2) (by kernel_rfl) (by kernel_rfl) rfl (by simp only[zap,qb6,ha];rfl) (by simp only[zam,qb7,he];rfl) ((s95_eq _ _ _ _ _).trans e1) rfl rfl
  have hself:(x,t)∈NS:=hmem _ (by rw[qcV];exact zav ..)
  have hts:=Tm.size_ks t
  rw[hts] at hlv
  obtain⟨s1,a1,a2,a3⟩:=hf q y E s (m+22*Tm.sizeL t.ks) (x,t) hself hr (by rw[show m+22*Tm.sizeL t.ks+22=m+22*(1+Tm.sizeL t.ks) by omega];exact hlv)
  rw[qcV,qbF]
  rw[qcV] at hmem
  unfold s95
  cases hgo:(f y (x,t)).2 with
  |false=>
   rw[hgo] at a1
   simp only[a1,zai,if_false,qaH,qch,qcl,vwt,zal,qaa,cond_true,zaa,qab,qam,qbo]
   exact⟨s1,rfl,a2,fun h=>by cases h⟩
  |true=>
   rw[hgo] at a1
   simp only[a1,if_true,qaH,qch,qcl,vwt,zak,qaa,cond_false,zaa,qab,qam,qbo]
   unfold s95_0
   generalize hF:(fun(h12:zA->ASt->Res) (x10:zA) (s11:ASt)=>_)=F
   have hlen:=Tm.len_le_size t.ks
   have key:∀(r done:List Tm) (j k:Nat) (y:σ) (s:ASt),t.ks=done++r->done.length=j->r.length<k->R q y E s->live (m+22*Tm.sizeL r) y->∃s',lp (fun _ _=>none) F k (i64 (.ofNat j)) s=some (bl (qbF f y (qbf (fun j=>x.kid t j) j r)).2,s')/\R q (qbF f y (qbf (fun j=>x.kid t j) j r)).1 E s'/\((qbF f y (qbf (fun j=>x.kid t j) j r)).2=true->live m (qbF f y (qbf (fun j=>x.kid t j) j r)).1):=by
    intro r
    induction r with
    |nil=>
     intro done j k y s h1 h2 hk hr hlv
     obtain⟨k,rfl⟩:∃m,k=m+1:=⟨k-1,by simp only[zaC] at hk;omega⟩
     rw[qa5]
     generalize lp _ F k=L
     subst hF
     have hj:j=t.ks.length:=by rw[h1];simp[h2]
     have hnl:¬(Int.ofNat j<Int.ofNat t.ks.length):=fun h=>by have:=of_lt.1 h;omega
     simp only[hnl,qbf,qbF,qch,qad,qap,qay,decide_false,qaa,cond_false,zab,zaa]
     exact⟨s,rfl,hr,fun _=>by simpa only[Tm.sizeL,Nat.mul_zero,zbj] using hlv⟩
    |cons u r ih2=>
     intro done j k y s h1 h2 hk2 hr hlv
     obtain⟨k,rfl⟩:∃m,k=m+1:=⟨k-1,by simp only[zar] at hk2;omega⟩
     have hu:t.ks[j]? =some u:=by rw[h1,zaA (by omega),h2];simp
     have hjl:j<t.ks.length:=(zao.1 hu).1
     have hus:u.size<t.size:=qa3 (zaN hu)
     have hkid:=hk (x,t) hself j u hu E
     have hsub:∀p∈qbf (fun j=>x.kid t j) j (u::r),p∈qbf (fun j=>x.kid t j) 0 t.ks:=by
      have:∀(dn:List Tm) (i:Nat) (rest:List Tm) p,p∈qbf (fun j=>x.kid t j) (i+dn.length) rest->p∈qbf (fun j=>x.kid t j) i (dn++rest):=by
       intro dn
       induction dn with
       |nil=>intro i rest p hp;exact hp
       |cons v dn ih3=>
        intro i rest p hp
        simp only[zaP,qbf,zaO]
        right
        refine ih3 (i+1) rest p ?_
        rw[zar] at hp
        rw[show i+1+dn.length=i+(dn.length+1) by omega]
        exact hp
      intro p hp
      rw[h1]
      exact this done 0 _ p (by rw[zaF,h2];exact hp)
     have hmu:∀p∈qbp u (x.kid t j),p∈NS:=fun p hp=>hmem p (zaw _ (hsub p (by simp only[qbf,zaO];exact .inl hp)))
     obtain⟨s2,b1,b2,b3⟩:=ih q u (x.kid t j) (by omega) hmu y E s (m+22*Tm.sizeL r) hr (by rw[show m+22*Tm.sizeL r+22*u.size=m+22*(u.size+Tm.sizeL r) by omega];exact hlv)
     simp only[qbf,qer]
     have hw:=qaO (show j<9223372036854775807 by omega)
     cases hg2:(qbF f y (qbp u (x.kid t j))).2 with
     |false=>
      rw[hg2] at b1
      rw[qa5]
      generalize lp _ F k=L
      subst hF
      simp only[of_lt.2 hjl,hkid,b1,zai,if_false,qch,qad,qap,qay,decide_true,zal,qaa,cond_true,zab,zaa,qab,qam]
      exact⟨s2,rfl,b2,fun h=>by cases h⟩
     |true=>
      rw[hg2] at b1
      obtain⟨s3,c1,c2,c3⟩:=ih2 (done++[u]) (j+1) k _ s2 (by rw[h1];simp) (by simp[h2]) (by simp only[zar] at hk2;omega) b2 (b3 hg2)
      rw[qa5]
      generalize lp _ F k=L at c1⊢
      subst hF
      simp only[of_lt.2 hjl,hkid,b1,hw,if_true,qch,qad,qap,qay,decide_true,zak,qaa,cond_true,cond_false,zab,zaa,qab,qam]
      exact⟨s3,c1,c2,c3⟩
   exact key t.ks [] 0 n _ s1 rfl rfl (by omega) a2 (a3 hgo)
end
def nm:Nat->ByteArray
 |0=>⟨#[111,112]⟩|1=>⟨#[97,115]⟩|2=>⟨#[115,105,122,101]⟩|3=>⟨#[110,101,117,116,114,97,108]⟩|4=>⟨#[115,119,97,112]⟩|5=>⟨#[105,102]⟩|6=>⟨#[115,97,109,101]⟩|7=>⟨#[110,111,116]⟩|8=>⟨#[98,111,111,108]⟩|9=>⟨#[115,107,105,112]⟩|10=>⟨#[110,101,115,116]⟩
 |11=>⟨#[100,101,97,100]⟩|12=>⟨#[119,104,105,108,101]⟩|13=>⟨#[117,110,117,115,101,100]⟩|14=>⟨#[114,101,97,100]⟩|15=>⟨#[119,114,105,116,101]⟩|16=>⟨#[107,110,111,119,110]⟩|17=>⟨#[108,97,98,101,108]⟩|18=>⟨#[106,117,109,112]⟩|19=>⟨#[110,111,116,105,99,101]⟩|20=>⟨#[99,104,111,111,115,101]⟩|_=>⟨#[110,101,118,101,114]⟩
def ruC (i:Nat):List zP:=[.str (nm i),.func (72+i) [] []]
def ruL:List Nat:=[0,1,2,3,4,5,6,7,8,9,10,11,12,13,14,15,16,17,18,19,20,21]
abbrev ruV:zA:=.p (.sl 22 (qaQ ruC ruL))
theorem qpA:PC CP 50 [] ruV:=by
 refine PC.of2 (cf:=cf50) (np:=0) (args':=[]) (by kernel_rfl) (by kernel_rfl) rfl rfl rfl (fun _=>rfl) (Ev.of fun n E s=>⟨.sl 22 (qaQ ruC ruL) .full,s,(s50_eq _ _ _).trans ?_,rfl⟩)
 rfl
theorem qjp {i:Nat}(h:i<22):ruL[i]? =some i:=by
 match i,h with
 |0,_=>rfl|1,_=>rfl|2,_=>rfl|3,_=>rfl|4,_=>rfl|5,_=>rfl|6,_=>rfl|7,_=>rfl|8,_=>rfl|9,_=>rfl|10,_=>rfl
 |11,_=>rfl|12,_=>rfl|13,_=>rfl|14,_=>rfl|15,_=>rfl|16,_=>rfl|17,_=>rfl|18,_=>rfl|19,_=>rfl|20,_=>rfl|21,_=>rfl
 |_+22,h=>exact absurd h (by omega)
end Go.AI.Tryz
namespace Go.AI.Tryz
abbrev Of:=Int×Int×Tm
def rwV (o:Of):zA:=.agg [u8 o.1,i64 o.2.1]
def qdn (sm:Int->Bool)(x:Sc)(t:Tm)(at_:Int):List Of:=ruL.filterMap fun i=>if sm (.ofNat (i+1)) then(qbm i x t).map fun u=>(.ofNat (i+1),at_,u) else none
def qdx (sm:Int->Bool):Int->List (Sc×Tm)->List Of
 |_,[]=>[]
 |at_,p::r=>qdn sm p.1 p.2 at_++qdx sm (at_+1) r
def qnM (sm:Int->Bool):Int->List (Sc×Tm)->List Of
 |_,[]=>[]
 |at_,p::r=>qdn sm p.1 p.2 at_++qnM sm (qbb .i64 (at_+1)) r
theorem qmT (sm:Int->Bool):∀(r:List (Sc×Tm)) (at_:Int),0<=at_->at_+r.length<=1000000000->qnM sm at_ r=qdx sm at_ r
 |[],_,_,_=>rfl
 |p::r,a,h0,h1=>by
  simp only[zar] at h1
  simp only[qnM,qdx]
  rw[qbt (by omega) (by omega),qmT sm r (a+1) (by omega) (by omega)]
def f96 {σ:Type}(st:σ->Of->σ×Bool)(sm:Int->Bool):σ×Int->Sc×Tm->(σ×Int)×Bool:=fun z p=>
 if(qbF st z.1 (qdn sm p.1 p.2 z.2)).2 then(((qbF st z.1 (qdn sm p.1 p.2 z.2)).1,qbb .i64 (z.2+1)),true) else(((qbF st z.1 (qdn sm p.1 p.2 z.2)).1,z.2),false)
theorem qsj {σ:Type}(st:σ->Of->σ×Bool)(sm:Int->Bool):∀(l:List (Sc×Tm)) (y:σ) (a:Int),(qbF (f96 st sm) (y,a) l).1.1=(qbF st y (qnM sm a l)).1/\(qbF (f96 st sm) (y,a) l).2=(qbF st y (qnM sm a l)).2
 |[],y,a=>⟨rfl,rfl⟩
 |p::l,y,a=>by
  simp only[qbF,qnM,qer,f96]
  cases h:(qbF st y (qdn sm p.1 p.2 a)).2 with
  |true=>
   simp only[if_true]
   exact qsj st sm l _ _
  |false=>simp only[zai,if_false,and_self]
theorem qpB {m:Nat}(h:m<256):qbb .u8 (.ofNat m)=.ofNat m:=by
 show cond (Nat.blt m 256) _ _=_
 rw[blt_iff.2 h,cond_true]
abbrev qrr (s:ASt):Nat×List (Nat×Nat×Nat):=(s.ntok,s.toks)
section
variable {κ σ:Type} (N0 l7:κ->Nat) (yv someV:κ->zA) (U:κ->σ->qaU->qaU->Nat×List (Nat×Nat×Nat)->Prop) (st:σ->Of->σ×Bool) (sm:Int->Bool) (OS:Tm->Prop) (live:Nat->σ->Prop)
def YC (n:Nat):Prop:=∀q y E H pre s (o:Of) (m:Nat),OS o.2.2->s.heap=pre++H->(∀x∈pre,N0 q<=x.1)->N0 q<=s.next->U q y E H (qrr s)->live (m+1) y->
 ∃s' H',clv (qag CP n E) (yv q) [rwV o,o.2.2.v] s=some (bl (st y o).2,s')/\s'.heap=pre++H'/\s'.next=s.next/\U q (st y o).1 E H' (qrr s')/\((st y o).2=true->live m (st y o).1)
def SmC (n:Nat):Prop:=∀q y E H pre s i,i<22->s.heap=pre++H->(∀x∈pre,N0 q<=x.1)->U q y E H (qrr s)->clv (qag CP n E) (someV q) [u8 (.ofNat (i+1))] s=some (bl (sm (.ofNat (i+1))),s)
def RuA (NS:List (Sc×Tm))(n:Nat):Prop:=∀p∈NS,∀i,i<22->∀E s,cl (qag CP n E) (72+i) [(vw p.1 p.2).v] s=some (qcM (qbm i p.1 p.2),s)
def qkO (q:κ)(M:Nat)(a:Int):qaU:=[(M+2,.cells [ruV]),(M+1,.cells [i64 a]),(M,.cells [yv q])]
def R96 (q:κ×Nat)(z:σ×Int)(E:qaU)(s:ASt):Prop:=∃H,s.heap=qkO yv q.1 q.2 z.2++H/\s.next=q.2+3/\N0 q.1<=q.2/\U q.1 z.1 E H (qrr s)
variable {N0 l7 yv someV U st sm OS live}
theorem qxa {NS:List (Sc×Tm)}(hmono:∀m y,live (m+1) y->live m y)(hU:∀q y E H tk,U q y E H tk->qdl E H (l7 q)=some [someV q]/\l7 q<N0 q)(hOS:∀p∈NS,∀i,i<22->∀u,qbm i p.1 p.2=some u->OS u)
  (hy:Ev fun n=>YC N0 yv U st OS live n)(hs:Ev fun n=>SmC N0 someV U sm n)(hr:Ev fun n=>RuA NS n):
  Ev fun n=>qvu (fun m z=>live m z.1) (R96 N0 yv U) (fun q=> .func 96 [] [.ptr (q.2+2) 0,.ptr (l7 q.1) 0,.ptr q.2 0,.ptr (q.2+1) 0]) (f96 st sm) NS n:=by
 refine Ev.succ ((((hy.and hs).and (hr.and (Ev.ge 30)))).mono fun n ⟨⟨hy,hs⟩,hr,hn⟩ q z E s m p hp ⟨H,r1,r2,r3,r4⟩ hlv=>?_)
 rw[qhS CP (by omega)]
 simp only[zaQ,zaP]
 obtain⟨q,M⟩:=q
 obtain⟨y,a⟩:=z
 obtain⟨x,t⟩:=p
 simp only at r1 r2 r3 r4 hlv
 suffices ∃s',s96 (qag CP n E) n (vw x t).v (.ptr (M+2) 0) (.ptr (l7 q) 0) (.ptr M 0) (.ptr (M+1) 0) s=some (bl (f96 st sm (y,a) (x,t)).2,s')/\R96 N0 yv U (q,M) (f96 st sm (y,a) (x,t)).1 E s'/\((f96 st sm (y,a) (x,t)).2=true->live m (f96 st sm (y,a) (x,t)).1.1) by
  obtain⟨s',e1,e2,e3⟩:=this
  refine⟨s',?_,e2,e3⟩
  rw[qb0]
  exact qfn (cf:=cf96) (np:=5) (args':=[(vw x t).v,.ptr (M+2) 0,.ptr (l7 q) 0,.ptr M 0,.ptr (M+1) 0]) (v:=bl (f96 st sm (y,a) (x,t)).2) (by kernel_rfl) (by kernel_rfl) rfl rfl rfl ((s96_eq _ _ _ _ _ _ _ _).trans e1) rfl rfl
 have hpre:∀b:Int,∀v∈qkO yv q M b,N0 q<=v.1:=by
  intro b v hv
  simp only[qkO,zaE,zaH,or_false] at hv
  rcases hv with rfl|rfl|rfl<;>simp only<;>omega
 have c2:∀(s:ASt) H,s.heap=qkO yv q M a++H->qas (qag CP n E).E s (M+2)=some [ruV]:=fun s H h=>by rw[qa7];exact qaX h
 have c1:∀(s:ASt) H,s.heap=qkO yv q M a++H->qas (qag CP n E).E s (M+1)=some [i64 a]:=fun s H h=>by
  rw[qa7,qbB h (by omega)]
  exact qaX (s:={s with heap:=(M+1,.cells [i64 a])::(M,.cells [yv q])::H}) rfl
 have c0:∀(s:ASt) H,s.heap=qkO yv q M a++H->qas (qag CP n E).E s M=some [yv q]:=fun s H h=>by
  have h':s.heap=(M+1+1,.cells [ruV])::(M+1,.cells [i64 a])::(M,.cells [yv q])::H:=h
  rw[qa7,qiu h' (by omega)]
  exact qaX (s:=⟨0,(M,.cells [yv q])::H,0,[]⟩) rfl
 have c7:∀(s:ASt) H y,s.heap=qkO yv q M a++H->U q y E H (qrr s)->qas (qag CP n E).E s (l7 q)=some [someV q]:=fun s H y h hu=>by
  obtain⟨h1,h2⟩:=hU q y E H _ hu
  rw[qa7,qe2 h fun v hv=>by have:=hpre a v hv;omega]
  exact h1
 have one:∀v:zA,ldL [v] 0 none=some v:=fun _=>rfl
 unfold s96
 simp only[ldP (c2 s H r1),one,qaH,zaa,qbo]
 unfold s96_2
 generalize hF:(fun(h16:zA->Nat->Nat->List zA->List zA->List zA->ASt->Res) (x9:zA) (g10 g11:Nat) (c12 c13 c14:List zA) (s15:ASt)=>_)=F
 have key:∀(r:List Nat) (j k g g':Nat) (c c':List zA) (y:σ) (s:ASt) (H:qaU),ruL.drop j=r->j+r.length=22->r.length<k->s.heap=qkO yv q M a++H->s.next=M+3->U q y E H (qrr s)->live (m+r.length) y->
   ∃s',lp (fun _ _ _ _ _ _ _=>none) F k (i64 (.ofNat j)) g g' (vw x t).c c c' s=some (bl (qbF st y (r.filterMap fun i=>if sm (.ofNat (i+1)) then(qbm i x t).map fun u=>((.ofNat (i+1):Int),a,u) else none)).2,s')/\
    ((qbF st y (r.filterMap fun i=>if sm (.ofNat (i+1)) then(qbm i x t).map fun u=>((.ofNat (i+1):Int),a,u) else none)).2=true->R96 N0 yv U (q,M) ((qbF st y (r.filterMap fun i=>if sm (.ofNat (i+1)) then(qbm i x t).map fun u=>((.ofNat (i+1):Int),a,u) else none)).1,qbb .i64 (a+1)) E s'/\live m (qbF st y (r.filterMap fun i=>if sm (.ofNat (i+1)) then(qbm i x t).map fun u=>((.ofNat (i+1):Int),a,u) else none)).1)/\
    ((qbF st y (r.filterMap fun i=>if sm (.ofNat (i+1)) then(qbm i x t).map fun u=>((.ofNat (i+1):Int),a,u) else none)).2=false->R96 N0 yv U (q,M) ((qbF st y (r.filterMap fun i=>if sm (.ofNat (i+1)) then(qbm i x t).map fun u=>((.ofNat (i+1):Int),a,u) else none)).1,a) E s'):=by
  intro r
  induction r with
  |nil=>
   intro j k g g' c c' y s H h1 h2 hk r1 r2 r4 hlv
   obtain⟨k,rfl⟩:∃m,k=m+1:=⟨k-1,by simp only[zaC] at hk;omega⟩
   rw[qa5]
   generalize lp _ F k=L
   subst hF
   have hj:j=22:=by simpa using h2
   subst hj
   have hnl:¬(Int.ofNat 22<Int.ofNat 22):=by omega
   have b2:Nat.beq (M+2) (M+1)=false:=beq_false (by omega)
   have hst:stH s (.ptr (M+1) 0) [i64 (qbb .i64 (a+1))]=some {s with heap:=qkO yv q M (qbb .i64 (a+1))++H}:=by
    have ho:over [i64 a] 0 [i64 (qbb .i64 (a+1))]=some [i64 (qbb .i64 (a+1))]:=rfl
    have haw:[i64 (qbb .i64 (a+1))].all qaY=true:=rfl
    simp only[stH,qbL,r1,qkO,zaP,zaQ,qar,qaK,b2,qaD rfl,cond_true,cond_false,haw,ho,zaa,zab]
   refine⟨{s with heap:=qkO yv q M (qbb .i64 (a+1))++H},?_,fun _=>⟨⟨H,rfl,r2,r3,r4⟩,hlv⟩,fun h=>by cases h⟩
   simp only[hnl,ldP (c1 s H r1),one,qbM,hst,List.filterMap_nil,qbF,qch,qad,qap,qay,decide_false,qaa,cond_false,qaj,zab,zaa,cnd]
  |cons i r ih=>
   intro j k g g' c c' y s H h1 h2 hk r1 r2 r4 hlv
   obtain⟨k,rfl⟩:∃m,k=m+1:=⟨k-1,by simp only[zar] at hk;omega⟩
   simp only[zar] at h2 hk
   have hj22:j<22:=by omega
   have hij:i=j/\ruL.drop (j+1)=r:=by
    have hg:=qjp hj22
    have hjl:j<ruL.length:=hj22
    rw[zaz hjl] at h1
    injection h1 with e1 e2
    rw[zah hjl,zac] at hg
    exact⟨e1.symm.trans hg,e2⟩
   obtain⟨rfl,hrd⟩:=hij
   have hlt:Int.ofNat i<Int.ofNat 22:=of_lt.2 hj22
   have hia:iaV 2 ruV (i64 (.ofNat i))=some (qaQ ruC ruL,i*2):=qbV (c:=ruC) (sz:=2) (l:=ruL) hj22
   have hld:∀s,ldH (qag CP n E) s (.elem (qaQ ruC ruL) (i*2)) (some 2)=some (.agg [.p (.str (nm i)),.p (.func (72+i) [] [])]):=fun s=>qdr (c:=ruC) (sz:=2) (fun _=>rfl) _ s (qjp hj22)
   have hw:=qaO (show i<9223372036854775807 by omega)
   have hw8:=qpB (show i+1<256 by omega)
   have hsm:=hs q y E H (qkO yv q M a) s i hj22 r1 (hpre a) r4
   have hru:=hr (x,t) hp i hj22 E s
   have ho2:∀a b c d:zA,over [a,b] 0 [c,d]=some [c,d]:=fun _ _ _ _=>rfl
   have hl1:∀a b:zA,ldL [a,b] 1 none=some b:=fun _ _=>rfl
   have hclf:∀args s,clv (qag CP n E) (.p (.func (72+i) [] [])) args s=cl (qag CP n E) (72+i) args s:=fun args s=>qhi CP (by omega) E _ args s
   have cl2:∀a b:zA,zA.cells (some 2) (.agg [a,b])=some [a,b]:=fun _ _=>rfl
   cases hsmi:sm (.ofNat (i+1)) with
   |false=>
    rw[hsmi] at hsm
    have hnext:=ih (i+1) k (g+1) g' [.p (.str (nm i)),.p (.func (72+i) [] [])] c' y s H hrd (by omega) (by omega) r1 r2 r4 (hmono _ _ hlv)
    have hfm:(List.filterMap (fun i=>if sm (.ofNat (i+1)) then(qbm i x t).map fun u=>((.ofNat (i+1):Int),a,u) else none) (i::r))=r.filterMap fun i=>if sm (.ofNat (i+1)) then(qbm i x t).map fun u=>((.ofNat (i+1):Int),a,u) else none:=by
     rw[List.filterMap_cons_none];simp only[hsmi,zai,if_false]
    rw[hfm]
    obtain⟨s',e1,e2,e3⟩:=hnext
    refine⟨s',?_,e2,e3⟩
    rw[qa5]
    generalize lp _ F k=L at e1⊢
    subst hF
    unfold s96_0
    simp only[hlt,hia,hld,cl2,ho2,za6,hw,qmG,hw8,ldP (c7 s H y r1 r4),one,hsm,qch,qad,qap,qay,decide_true,zal,qaa,cond_true,qaj,zab,zaa,qab,qam,cnd]
    exact e1
   |true=>
    rw[hsmi] at hsm
    cases hrl:qbm i x t with
    |none=>
     rw[hrl] at hru
     have hnext:=ih (i+1) k (g+1) (g'+1) [.p (.str (nm i)),.p (.func (72+i) [] [])] Tm.z.c y s H hrd (by omega) (by omega) r1 r2 r4 (hmono _ _ hlv)
     have hfm:(List.filterMap (fun i=>if sm (.ofNat (i+1)) then(qbm i x t).map fun u=>((.ofNat (i+1):Int),a,u) else none) (i::r))=r.filterMap fun i=>if sm (.ofNat (i+1)) then(qbm i x t).map fun u=>((.ofNat (i+1):Int),a,u) else none:=by
      rw[List.filterMap_cons_none];simp only[hsmi,hrl,if_true,Option.map_none]
     rw[hfm]
     obtain⟨s',e1,e2,e3⟩:=hnext
     refine⟨s',?_,e2,e3⟩
     rw[qa5]
     generalize lp _ F k=L at e1⊢
     subst hF
     unfold s96_1 s96_0
     simp only[hlt,hia,hld,cl2,ho2,hl1,za6,hw,qmG,hw8,ldP (c7 s H y r1 r4),one,hsm,hclf,hru,qah,qau,qch,qad,qap,qay,decide_true,zak,qaa,cond_true,cond_false,qaj,zab,zaa,qab,qan,qaw,qax,qam,cnd,qaB,zaG,zaD]
     exact e1
    |some u=>
     rw[hrl] at hru
     have hyc:=hy q y E H (qkO yv q M a) s (.ofNat (i+1),a,u) (m+r.length) (hOS (x,t) hp i hj22 u hrl) r1 (hpre a) (by omega) r4 hlv
     obtain⟨s1,H1,y1,y2,y3,y4,y5⟩:=hyc
     have y1':clv (qag CP n E) (yv q) [.agg [u8 (.ofNat (i+1)),i64 a],u.v] s=some (bl (st y (.ofNat (i+1),a,u)).2,s1):=y1
     have hbd:bd [u8 0,i64 0] [(0,none,.c (u8 (.ofNat (i+1)))),(1,none,.c (i64 a))]=some (.agg [u8 (.ofNat (i+1)),i64 a]):=rfl
     have hfm:(List.filterMap (fun i=>if sm (.ofNat (i+1)) then(qbm i x t).map fun u=>((.ofNat (i+1):Int),a,u) else none) (i::r))=(.ofNat (i+1),a,u)::r.filterMap fun i=>if sm (.ofNat (i+1)) then(qbm i x t).map fun u=>((.ofNat (i+1):Int),a,u) else none:=by
      rw[List.filterMap_cons_some];simp only[hsmi,hrl,if_true,zab]
     rw[hfm]
     simp only[qbF]
     cases hb:(st y (.ofNat (i+1),a,u)).2 with
     |false=>
      rw[hb] at y1'
      refine⟨s1,?_,fun h=>by simp at h,fun _=>?_⟩
      ·rw[qa5]
       generalize lp _ F k=L
       subst hF
       unfold s96_1
       simp only[hlt,hia,hld,cl2,ho2,hl1,za6,hw,qmG,hw8,ldP (c7 s H y r1 r4),ldP (c0 s H r1),ldP (c1 s H r1),one,hsm,hclf,hru,hbd,y1',zai,if_false,qah,qaS,qau,qch,qad,qap,qay,decide_true,zak,zal,qaa,cond_true,cond_false,qaj,zab,zaa,qab,qan,qaw,qax,qam,cnd,qaB,zaB,zbe]
      ·simp only[zai,if_false]
       exact⟨H1,y2,y3.trans r2,r3,y4⟩
     |true=>
      rw[hb] at y1'
      simp only[if_true]
      have hnext:=ih (i+1) k (g+1) (g'+1) [.p (.str (nm i)),.p (.func (72+i) [] [])] u.c (st y (.ofNat (i+1),a,u)).1 s1 H1 hrd (by omega) (by omega) y2 (y3.trans r2) y4 (y5 hb)
      obtain⟨s',e1,e2,e3⟩:=hnext
      refine⟨s',?_,e2,e3⟩
      rw[qa5]
      generalize lp _ F k=L at e1⊢
      subst hF
      unfold s96_1 s96_0
      simp only[hlt,hia,hld,cl2,ho2,hl1,za6,hw,qmG,hw8,ldP (c7 s H y r1 r4),ldP (c0 s H r1),ldP (c1 s H r1),one,hsm,hclf,hru,hbd,y1',qah,qaS,qau,qch,qad,qap,qay,decide_true,zak,qaa,cond_true,cond_false,qaj,zab,zaa,qab,qan,qaw,qax,qam,cnd,qaB,zaB,zbe]
      exact e1
 obtain⟨s',e1,e2,e3⟩:=key ruL 0 n 0 0 [] [] y s H rfl rfl (by show 22<n;omega) r1 r2 r4 hlv
 have hoff:(ruL.filterMap fun i=>if sm (.ofNat (i+1)) then(qbm i x t).map fun u=>((.ofNat (i+1):Int),a,u) else none)=qdn sm x t a:=rfl
 rw[hoff] at e1 e2 e3
 unfold f96
 simp only
 cases hb:(qbF st y (qdn sm x t a)).2 with
 |true=>
  rw[hb] at e1
  simp only[if_true]
  exact⟨s',e1,(e2 hb).1,fun _=>(e2 hb).2⟩
 |false=>
  rw[hb] at e1
  simp only[zai,if_false]
  exact⟨s',e1,e3 hb,fun h=>by cases h⟩
end
end Go.AI.Tryz
namespace Go.AI
theorem qvv (s:ASt)(zs cs new:List zA)(o:Nat)(p:zH)(ha:cs.all qaY=true)(h:over zs o cs=some new):stH (qak (qak s (.cells zs)) p) (.ptr s.next o) cs=some (qak (qak s (.cells new)) p):=by
 have b:Nat.beq (s.next+1) s.next=false:=Tryz.beq_false (by omega)
 unfold stH qbL qak
 simp only[qar,qaK,b,qaD rfl,cond_true,cond_false,ha,h,zaa,zab]
end Go.AI
namespace Go.AI.Tryz
mutual
theorem qbP:∀(t:Tm) (x:Sc),(qbp t x).length=t.size
 |.mk k n m i ks,x=>by
  simp only[qbp,zar,qfU ks,Tm.size];omega
theorem qfU:∀(ks:List Tm) (sc:Nat->Sc) (j:Nat),(qbf sc j ks).length=Tm.sizeL ks
 |[],_,_=>rfl
 |u::r,sc,j=>by simp only[qbf,zay,qbP u,qfU r,Tm.sizeL]
end
theorem qpC {x:Sc}{t:Tm}(h:(szF x t).2=true):¬t.k=17:=by
 have hs:=qda h
 intro hk
 cases hs<;>first
  |(simp only[Tm.k_mk] at hk;omega)
  |(rw[qdM] at h;cases h)
theorem qtx {x:Sc}{t:Tm}(h:Nd x t):Ev fun n=>qxA (qbp t x) n:=by
 refine Ev.mono (Ev.all (P:=fun(p:Sc×Tm) n=>∀(j:Nat) u,p.2.ks[j]? =some u->∀E s,cl (qag CP n E) 132 [(vw p.1 p.2).v,i64 (.ofNat j)] s=some ((vw (p.1.kid p.2 j) u).v,s)) (qbp t x) fun p hp=>?_) fun n h p hp=>h p hp
 obtain⟨hn,_⟩:=qfv _ t x (zan _) h p hp
 have hall:=Ev.all (P:=fun(j:Nat) n=>∀u,p.2.ks[j]? =some u->∀E s,cl (qag CP n E) 132 [(vw p.1 p.2).v,i64 (.ofNat j)] s=some ((vw (p.1.kid p.2 j) u).v,s)) (List.range p.2.ks.length) fun j hj=>by
  have hjl:j<p.2.ks.length:=za9.1 hj
  have hu:p.2.ks[j]? =some p.2.ks[j]:=zah hjl
  have:=qpj p.1 p.2 p.2.ks[j] j hu hn.b (fun hk _=>by
   rcases hn.w with h|⟨b,h⟩
   ·exact absurd hk (qpC h)
   ·rcases qft h with h|⟨i,e,h,_⟩|⟨u,w,h,h1,_⟩
    ·exact absurd hk (qpC (x:=p.1) (by rw[h]))
    ·rw[h] at hk;simp only[Tm.k_mk] at hk;omega
    ·exact⟨u,by rw[h];rfl,by rw[h1]⟩)
  refine this.mono fun n h u hu' E s=>?_
  rw[hu,zac] at hu'
  subst hu'
  exact h E s
 refine hall.mono fun n h j u hu E s=>h j (za9.2 (zao.1 hu).1) u hu E s
theorem qrs {x:Sc}{t:Tm}(h:Nd x t)(hs:t.size<=900000):Ev fun n=>RuA (qbp t x) n:=by
 refine Ev.mono (Ev.all (P:=fun(p:Sc×Tm) n=>∀i,i<22->∀E s,cl (qag CP n E) (72+i) [(vw p.1 p.2).v] s=some (qcM (qbm i p.1 p.2),s)) (qbp t x) fun p hp=>?_) fun n h p hp=>h p hp
 obtain⟨hn,hsz⟩:=qfv _ t x (zan _) h p hp
 have hall:=Ev.all (P:=fun(i:Nat) n=>∀E s,cl (qag CP n E) (72+i) [(vw p.1 p.2).v] s=some (qcM (qbm i p.1 p.2),s)) (List.range 22) fun i hi=>qvt hn (by omega) i (za9.1 hi)
 exact hall.mono fun n h i hi=>h i (za9.2 hi)
section
variable {κ σ:Type} {N0 l4 l7:κ->Nat} {yv someV:κ->zA} {U:κ->σ->qaU->qaU->Nat×List (Nat×Nat×Nat)->Prop} {st:σ->Of->σ×Bool} {sm:Int->Bool} {OS:Tm->Prop} {live:Nat->σ->Prop}
theorem qpD {x:Sc}{t:Tm}(hnd:Nd x t)(hsz:t.size<=900000)(hmono:∀m y,live (m+1) y->live m y)(ha:∀q,qaY (yv q)=true)(hw:∀q,qbG (yv q)=true)(he:∀q,qaF (yv q)=yv q)(hce:∀q,zA.cells none (yv q)=some [yv q])
  (hU:∀q y E H tk,U q y E H tk->qdl E H (l7 q)=some [someV q]/\l7 q<N0 q)(hU4:∀q y E H tk,U q y E H tk->qdl E H (l4 q)=some (vw x t).c/\l4 q<N0 q)
  (hOS:∀p∈qbp t x,∀i,i<22->∀u,qbm i p.1 p.2=some u->OS u)
  (hy:Ev fun n=>YC N0 yv U st OS live n)(hs:Ev fun n=>SmC N0 someV U sm n):
  Ev fun n=>∀q y E s,N0 q<=s.next->U q y E s.heap (qrr s)->live (22*t.size) y->∃s' pre' H',cl (qag CP n E) 94 [yv q,.ptr (l4 q) 0,.ptr (l7 q) 0] s=some (.tuple [],s')/\s'.heap=pre'++H'/\(∀v∈pre',N0 q<=v.1)/\s'.next=s.next+3/\U q (qbF st y (qdx sm 0 (qbp t x))).1 E H' (qrr s'):=by
 have hwalk:=qsi (κ:=κ×Nat) (fun _=>rfl) (fun _=>rfl) (qxa (NS:=qbp t x) hmono hU hOS hy hs (qrs hnd hsz)) (qtx hnd) t.size (by omega)
 refine Ev.succ ((hwalk.and qpA).mono fun n ⟨h,h50⟩ q y E s hN hu hlv=>?_)
 let M:=s.next
 let s16:=qak (qak (qak s (.cells [yv q])) (.cells [i64 0])) (.cells [ruV])
 have hR:R96 N0 yv U (q,M) (y,0) E s16:=⟨s.heap,rfl,rfl,hN,hu⟩
 obtain⟨s',e1,⟨H',r1,r2,r3,r4⟩,_⟩:=h (q,M) t x (zan _) (fun p hp=>hp) (y,0) E s16 0 hR (by rw[zaF];exact hlv)
 have hf:=qsj st sm (qbp t x) y 0
 rw[qmT sm (qbp t x) 0 (by omega) (by rw[qbP];omega)] at hf
 rw[hf.1] at r4
 refine⟨s',qkO yv q M (qbF (f96 st sm) (y,0) (qbp t x)).1.2,H',?_,r1,?_,r2,r4⟩
 ·rw[qb0]
  refine qfn (cf:=cf94) (np:=3) (args':=[yv q,.ptr (l4 q) 0,.ptr (l7 q) 0]) (v:=.tuple []) (by kernel_rfl) (by kernel_rfl) rfl (by simp only[zap,hw];rfl) (by simp only[zam,he];rfl) ((s94_eq _ _ _ _ _ _).trans ?_) rfl rfl
  have haw:[yv q].all qaY=true:=by simp only[zap,ha,List.all_nil,zat]
  have hst1:stH (qak (qak (qak s (.cells [yv q])) (.cells [i64 0])) (.cells [.sl 0 [] .full])) (.ptr (qak s (.cells [yv q])).next 0) [i64 0]=some (qak (qak (qak s (.cells [yv q])) (.cells [i64 0])) (.cells [.sl 0 [] .full])):=qvv _ _ _ _ _ _ rfl rfl
  have hst2:stH (qak (qak (qak s (.cells [yv q])) (.cells [i64 0])) (.cells [.sl 0 [] .full])) (.ptr (qak (qak s (.cells [yv q])) (.cells [i64 0])).next 0) [ruV]=some s16:=qlJ _ _ _ _ _ rfl rfl
  have hcr:zA.cells none ruV=some [ruV]:=rfl
  obtain⟨h4,h4l⟩:=hU4 q y E s.heap _ hu
  have hc4:qas (qag CP n E).E s16 (l4 q)=some (vw x t).c:=by
   rw[qa7,qe2 (s:=s16) (pre:=qkO yv q M 0) (H:=s.heap) rfl]
   ·exact h4
   ·intro v hv
    simp only[qkO,zaE,zaH,or_false,M] at hv
    rcases hv with rfl|rfl|rfl<;>simp only<;>omega
  have e1':cl (qag CP n E) 95 [(vw x t).v,.func 96 [] [.ptr (qak (qak s (.cells [yv q])) (.cells [i64 0])).next 0,.ptr (l7 q) 0,.ptr s.next 0,.ptr (qak s (.cells [yv q])).next 0]] s16=some (_,s'):=e1
  unfold s94
  simp only[hce,haw,h50,qbM,hst1,hcr,hst2,ldP hc4,e1',qch,zaa,qab,qbd,qbx,cnd]
 ·intro v hv
  simp only[qkO,zaE,zaH,or_false,M] at hv
  rcases hv with rfl|rfl|rfl<;>simp only<;>omega
end
theorem qpE {ι:Type}(y:Vw)(fv:ι->zA)(ha:∀i,qaY (fv i)=true)(hw:∀i,qbG (fv i)=true)(he:∀i,qaF (fv i)=fv i)(hce:∀i,zA.cells none (fv i)=some [fv i]):
  Ev fun n=>∀i E s,cl (qag CP n E) 54 [y.v,fv i] s=some (.func 94 [] [.ptr s.next 0,.ptr (s.next+1) 0],qak (qak s (.cells y.c)) (.cells [fv i])):=by
 refine Ev.succ (Ev.of fun n i E s=>?_)
 rw[qb0]
 refine qfn (cf:=cf54) (np:=2) (args':=[y.v,fv i]) (v:=.func 94 [] [.ptr s.next 0,.ptr (s.next+1) 0]) (by kernel_rfl) (by kernel_rfl) rfl (by simp only[zap,qb6,hw];rfl) (by simp only[zam,qb7,he];rfl) ((s54_eq _ _ _ _ _).trans ?_) rfl rfl
 have haw:[fv i].all qaY=true:=by simp only[zap,ha,List.all_nil,zat]
 unfold s54
 simp only[hce,haw,qaH,qdj,zaa,qbd,qbx,cnd]
 rfl
end Go.AI.Tryz
namespace Go.AI.Tryz
theorem qlO (n:Nat)(E:qaU)(l:Nat)(args:List zA)(s:ASt):(qag CP (n+1) E).callv (.yield l) args s=qeG (qcm CP (qag CP n) n E) (qag CP n) n E (.yield l) args s:=rfl
theorem qty {n nt nl:Nat}{E:qaU}{ly p1 p2:Nat}{fr:Tr zA}{lo:Tr (Nat×List zA)}{a b:CC}{pre HT HT2:qaU}{s s2:ASt}{F0:FL}{L:LL}{v1 v2:zA}{x:EX}
  (hrf:(qcF a&&qcF b)=true)(hcs:(qim (qeW b (qeW a 0)) a).cs=false)(h12:p1≠p2)(hp1:p1<nt)(hp2:p2<nt)
  (h:s.heap=pre++(ly,.loop 0 none fr lo [p1,p2] a b)::HT)(hp:∀v∈pre,v.1≠ly)(hF:∀t u,qar F0 t=some u->fr.get qaq t=u)(hh:∀t,t<nt->fr.has t=true)(hL:∀i p,qar L i=some p->lo.get (0,[]) i=p/\lo.has i=true)(ha:[v1,v2].all qbG=true)
  (hrun:quS nt nl (qag CP n E) n a b (fun s=>{s with heap:=pre++(ly,.loop 1 none fr lo [p1,p2] a b)::HT}) ((p1,v1)::(p2,v2)::F0) L s=some (qlw x,s2))(h2:s2.heap=pre++(ly,.loop 1 none fr lo [p1,p2] a b)::HT2):
  clv (qag CP (n+1) E) (.yield ly) [v1,v2] s=some (bl (qjG x),{s2 with heap:=pre++(ly,.loop (qqo x) (qfb x) fr lo [p1,p2] a b)::HT2}):=by
 rw[qg1,qlO]
 have hbe:Nat.beq ly ly=true:=qaD rfl
 have g1:∀(o:zH) (H:qaU),qar (pre++(ly,o)::H) ly=some o:=fun o H=>by
  rw[qdP hp]
  simp only[qar,hbe,cond_true]
 have g2:∀(o o':zH) (H:qaU),qaK (pre++(ly,o)::H) ly o'=some (pre++(ly,o')::H):=fun o o' H=>by
  rw[qdw hp]
  simp only[qaK,hbe,cond_true,zab]
 let f1:=(fr.set p1 v1).set p2 v2
 have hf1:qdI fr [p1,p2] [v1,v2]=some f1:=rfl
 have ag:AG nt ((p1,v1)::(p2,v2)::F0) L [] ⟨f1,lo,[],some ly,s⟩:=by
  refine⟨fun t u hu=>?_,fun i p hi=>hL i p hi,fun d l hd=>(by cases hd),fun t ht=>?_⟩
  ·show((fr.set p1 v1).set p2 v2).get qaq t=u
   rw[Tr.get_set _ _ _ _ _ (by rw[Tr.has_set];exact hh p2 hp2),Tr.get_set _ _ _ _ _ (hh p1 hp1)]
   rw[qao] at hu
   split at hu
   ·rename_i e
    subst e
    rw[if_neg (fun e=>h12 e.symm),if_pos rfl]
    simpa using hu
   ·rename_i e
    rw[qao] at hu
    split at hu
    ·rename_i e2
     rw[if_pos e2]
     simpa using hu
    ·rename_i e2
     rw[if_neg e2,if_neg e]
     exact hF t u hu
  ·show((fr.set p1 v1).set p2 v2).has t=true
   rw[Tr.has_set,Tr.has_set]
   exact hh t ht
 obtain⟨ca,cb,k1,k2,k3,k4⟩:=quT hrf hcs ag hrun
 have k2':ca.s=s:=k2
 simp only[qeG,h,g1,ha,cond_true,hf1,zaa,k1,k2',g2]
 have k3':qbr (qag CP n E) n b {ca with s:={s with heap:=pre++(ly,.loop 1 none fr lo [p1,p2] a b)::HT}}=some (x,cb):=k3
 simp only[k3',zaa,endRound,k4,h2,g1,g2,zab]
theorem qrt (l:Tr (Nat×List zA))(i:Nat):(l.map fun _=>((0,[]):Nat×List zA)).get (0,[]) i=(0,[]):=Tr.get_map (fun _=>((0,[]):Nat×List zA)) (0,[]) l i
theorem qtz (f:Tr zA)(i:Nat):(f.map far).get qaq i=far (f.get qaq i):=Tr.get_map far qaq f i
theorem qxb {n n' nt:Nat}{E:qaU}{l4 l7:Nat}{ps:List Nat}{a b:CC}{F:FL}{L:LL}{s:ASt}{kn kx kr:ASt->Res}{r:zA}(hn:1<=n)
  (hrun:∀(fr:Tr zA) (lo:Tr (Nat×List zA)),(∀t u,qar F t=some u→fr.get qaq t=far u)→(∀t,t<nt→fr.has t=true)→(∀i,lo.get (0,[]) i=(0,[]))→(∀i p,qar L i=some p→lo.has i=true)→
   ∃x s' pre' HT s2 r',cl (qag CP n E) 94 [.yield s.next,.ptr l4 0,.ptr l7 0] (qak s (.loop 0 none fr lo ps a b))=some (.tuple [],s')/\s'.heap=pre'++(s.next,.loop (qqo x) (qfb x) fr lo ps a b)::HT/\(∀v∈pre',v.1≠s.next)/\qaF r'=r/\(match x with
    |.normal=>kn {s' with heap:=pre'++(s.next,.gone)::HT}=some (r',s2)
    |.exit i=>i=exB b/\kx {s' with heap:=pre'++(s.next,.gone)::HT}=some (r',s2)
    |.ret=>kr {s' with heap:=pre'++(s.next,.gone)::HT}=some (r',s2))):
  qoM (qag CP n E) n' nt (.func 94 [] [.ptr l4 0,.ptr l7 0]) ps a b F L s kn kx kr r:=by
 intro c f hF hL hh hv hs hrd
 obtain⟨x,s',pre',HT,s2,r',h1,h2,h3,her,h4⟩:=hrun (c.f.map far) (c.l.map fun _=>(0,[])) (fun t u hu=>by rw[qtz,hF t u hu]) (fun t ht=>by rw[Tr.has_map];exact hh t ht) (qrt c.l) (fun i p hi=>by rw[Tr.has_map];exact hL i p hi)
 refine⟨x,{s' with heap:=pre'++(s.next,.gone)::HT},s2,r',?_,her,h4⟩
 have hbe:Nat.beq s.next s.next=true:=qaD rfl
 have g1:qar (pre'++(s.next,zH.loop (qqo x) (qfb x) (c.f.map far) (c.l.map fun _=>(0,[])) ps a b)::HT) s.next=some (.loop (qqo x) (qfb x) (c.f.map far) (c.l.map fun _=>(0,[])) ps a b):=by
  rw[qdP h3]
  simp only[qar,hbe,cond_true]
 have g2:qaK (pre'++(s.next,zH.loop (qqo x) (qfb x) (c.f.map far) (c.l.map fun _=>(0,[])) ps a b)::HT) s.next .gone=some (pre'++(s.next,.gone)::HT):=by
  rw[qdw h3]
  simp only[qaK,hbe,cond_true,zab]
 have hil:qjH c=true:=by unfold qjH;rw[hrd]
 have hcv:(qag CP n E).callv (.func 94 [] [.ptr l4 0,.ptr l7 0]) [.yield s.next] (qak s (.loop 0 none (c.f.map far) (c.l.map fun _=>(0,[])) ps a b))=some (.tuple [],s'):=by
  have:=qhS CP hn E 94 [] [.ptr l4 0,.ptr l7 0] [.yield s.next] (qak s (.loop 0 none (c.f.map far) (c.l.map fun _=>(0,[])) ps a b))
  rw[qg1] at this
  rw[this]
  exact h1
 have hst:Nat.beq (qqo x) 1=false:=by cases x<;>rfl
 unfold qbr
 rw[hil,hv,hs]
 simp only[qul,zat,cond_true,hcv,zaa,h2,g1,hst,cond_false,g2]
 cases x<;>rfl
theorem qmU (d:Nat):∀(F:FL),(∀p∈F,p.1<2^d-1)->∃fr:Tr zA,(∀t u,qar F t=some u->fr.get qaq t=u)/\∀t,t<2^d-1->fr.has t=true
 |[],_=>⟨Tr.mk qaq d,fun t u h=>(by cases h),fun t ht=>Tr.has_mk _ _ _ (by omega)⟩
 |(k,v)::F,h=>by
  obtain⟨fr,h1,h2⟩:=qmU d F fun p hp=>h p (zaw _ hp)
  refine⟨fr.set k v,fun t u hu=>?_,fun t ht=>by rw[Tr.has_set];exact h2 t ht⟩
  rw[Tr.get_set _ _ _ _ _ (h2 k (h (k,v) (zav ..)))]
  rw[qao] at hu
  split at hu
  ·rename_i e
   rw[if_pos e]
   simpa using hu
  ·rename_i e
   rw[if_neg e]
   exact h1 t u hu
theorem qvw {e:Env}{n nt:Nat}{v:zA}{ps:List Nat}{a b:CC}{F:FL}{L:LL}{s:ASt}{kn kx kr:ASt->Res}{r:zA}(d dl:Nat)(hF:∀p∈F,p.1<2^d-1)(hn:nt<=2^d-1)(hL:∀p∈L,p.1<2^dl-1)(h:qoM e n nt v ps a b F L s kn kx kr r):
  rfK e n nt v ps a b F L s kn kx kr=some (r,s):=by
 have hex:∃r,qoM e n nt v ps a b F L s kn kx kr r:=⟨r,h⟩
 unfold rfK
 rw[dif_pos hex]
 have h2:=hex.choose_spec
 obtain⟨fr,f1,f2⟩:=qmU d F hF
 have hlo:∀i p,qar L i=some p->(Tr.mk ((0,[]):Nat×List zA) dl).has i=true:=fun i p hi=>Tr.has_mk _ _ _ (by
  have:=hL (i,p) (by
   have:∀(L:LL),qar L i=some p->(i,p)∈L:=by
    intro L
    induction L with
    |nil=>intro h;cases h
    |cons q L ih=>
     intro h
     obtain⟨k,w⟩:=q
     rw[qao] at h
     split at h
     ·rename_i e
      subst e
      simp only[zac] at h
      subst h
      exact zav ..
     ·exact zaw _ (ih h)
   exact this L hi)
  simp only at this
  omega)
 obtain⟨x,s',s2,r',k1,k2,k3⟩:=h ⟨fr,Tr.mk (0,[]) dl,[],none,s⟩ (.c v) f1 hlo (fun t ht=>f2 t (by omega)) rfl rfl rfl
 obtain⟨y,t',t2,q',m1,m2,m3⟩:=h2 ⟨fr,Tr.mk (0,[]) dl,[],none,s⟩ (.c v) f1 hlo (fun t ht=>f2 t (by omega)) rfl rfl rfl
 rw[k1] at m1
 simp only[zac,zaq] at m1
 obtain⟨rfl,hs⟩:=m1
 injection hs with _ _ _ _ hs
 subst hs
 have hq:r'=q':=by
  cases x with
  |normal=>simp only at k3 m3;rw[k3] at m3;simp only[zac,zaq] at m3;exact m3.1
  |exit i=>simp only at k3 m3;have:=k3.2;rw[m3.2] at this;simp only[zac,zaq] at this;exact this.1.symm
  |ret=>simp only at k3 m3;rw[k3] at m3;simp only[zac,zaq] at m3;exact m3.1
 rw[<-k2,<-m2,hq]
end Go.AI.Tryz
