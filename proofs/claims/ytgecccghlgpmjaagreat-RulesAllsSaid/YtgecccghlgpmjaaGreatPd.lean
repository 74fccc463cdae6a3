/- Part 4: what the functions of the program compute, function by function. No condition. -/
import Derived.Test.YtgecccghlgpmjaaGreatPc
set_option linter.unusedVariables false
set_option linter.unusedSimpArgs false
open Bool renaming and_eq_true→zag,false_eq_true→zai,not_true→zak,not_false→zal,and_self→zat,false_and→zav,true_and→zay,and_false→zaT,or_eq_false_iff→zaU,not_eq_true'→za0,or_eq_true→za5,false_or→za6,and_true→za7,true_or→zbl
open Int renaming ofNat_eq_natCast→zaf,reduceEq→zaj
open List renaming getElem?_eq_getElem→zah,map_cons→zam,getElem?_eq_some_iff→zao,all_cons→zap,length_cons→zar,getElem?_cons_zero→zas,mem_cons_self→zau,length_append→zaw,mem_cons_of_mem→zax,drop_eq_getElem_cons→zaz,mem_cons→zaA,length_nil→zaB,getElem?_append_right→zaC,not_mem_nil→zaD,cons_append→zaF,append_assoc→zaH,mem_append→zaI,nil_append→zaJ,mem_of_getElem?→zaM,all_eq_true→zaN,getElem?_append_left→zaP,mem_singleton→zaV,length_map→zaZ,length_eq_zero_iff→za1,getElem_mem→za4,getElem?_map→za9,mem_range→zba,drop_length→zbb,append_nil→zbg,headD_cons→zbh,map_nil→zbn
open List.cons renaming injEq→zbo
open Nat renaming le_refl→zan,zero_add→zaK,lt_irrefl→zaX,zero_le→zaY,lt_of_lt_of_le→za2,beq_refl→za8,lt_succ_self→zbe,le_trans→zbf,lt_or_ge→zbi,add_zero→zbk
open Option renaming bind_some→zaa,map_some→zab,getD_some→zaE,isSome_none→zaG,getD_none→zaR,isSome_some→zbj
open Option.some renaming injEq→zac
open Prod.mk renaming injEq→zaq
namespace Go.AI
def qd5 (n m i:Bool)(k:Int):zP:=.agg [.bool n,.bool m,.bool i,.int .i64 k]
def qbt:List (zP×zP):=
 [(.int .u8 1,qd5 true true false 0),(.int .u8 2,qd5 false false true (-1)),(.int .u8 3,qd5 false false true 0),(.int .u8 4,qd5 false false true 1),
  (.int .u8 5,qd5 true true false 2),(.int .u8 6,qd5 true false false 1),(.int .u8 7,qd5 false false false 2),(.int .u8 8,qd5 false false false 3),
  (.int .u8 9,qd5 false false false 2),(.int .u8 10,qd5 true true false 1),(.int .u8 11,qd5 false false false 2),(.int .u8 12,qd5 true false false 0),
  (.int .u8 13,qd5 false false false 2),(.int .u8 14,qd5 false false false 0),(.int .u8 15,qd5 false false true 0),(.int .u8 16,qd5 false false true 0),
  (.int .u8 17,qd5 false false false 2),(.int .u8 18,qd5 true false true 1)]
def qcs (s:ASt)(es:List (zP×zP)):ASt:={s with next:=s.next+1,heap:=(s.next,.map es)::s.heap}
theorem os {α β:Type}{x:Option α}{y:α}{K:α->Option β}(h:x=some y):x.bind K=K y:=by subst h;rfl
theorem qrB {e:Env}{s:ASt}{k:Int}{es es':List (zP×zP)}{x:zA}{y:zP}{K:zA->ASt->Res}(hy:zA.pureW x=some y)(hp:qgb es (.int .u8 k) y=some es'):
  qac (ins e 1 (.map s.next) (u8 k) x (qcs s es)) K=K qaq (qcs s es'):=by
 have:ins e 1 (.map s.next) (u8 k) x (qcs s es)=some (qaq,qcs s es'):=by
  unfold ins stV qcs
  simp only[qaJ,Arg.ev,qas,qaK,za8,cond_true,qdK,hy,hp,zaa,zab]
 rw[this]
 rfl
theorem s58_run (e:Env)(n:Nat)(s:ASt):Go.AI.Tryz.s58 e n s=some (.map s.next,qcs s qbt):=by
 unfold Go.AI.Tryz.s58
 have h0:mkm e s=some (.map s.next,qcs s []):=rfl
 rw[h0,qab]
 iterate 18 (refine(os rfl).trans ?_;refine(qrB rfl rfl).trans ?_)
 rfl
end Go.AI
namespace Go.AI
structure Se where
 ty:Ty
 arg:Bool
namespace Se
def cells (x:Se):List zP:=x.ty.cells++[.bool x.arg]
def v (x:Se):zA:=.agg (x.cells.map .p)
def none:Se:=⟨⟨[],⟨false,0⟩⟩,false⟩
theorem len (x:Se):x.cells.length=4:=rfl
theorem v_eq (x:Se):x.v=.agg [.p (.sl x.ty.ps.length (qaQ Bs.cells x.ty.ps)),bl x.ty.res.cell,i64 x.ty.res.n,bl x.arg]:=rfl
end Se
structure Sc where
 ids:List Se
 top:Int
 size:Int
namespace Sc
def v (x:Sc)(l:Nat):zA:=.agg [.p (.sl x.ids.length (qaQ Se.cells x.ids)),i64 x.top,i64 x.size,.map l]
def get (x:Sc)(i:Int):Option Se:=if i<1 then .none else x.ids[(i-1).toNat]?
end Sc
def QC (f:Nat)(args:Nat->List zA)(r:Nat->zA):Prop:=
 Ev fun n=>∀E s l,qcR E s l=some qbt->∃s',cl (qag Tryz.CP n E) f (args l) s=some (r l,s')/\s'.heap=s.heap/\s'.next=s.next
theorem qaZ {E:qaR}{s s':ASt}{l:Nat}(h:s'.heap=s.heap):qcR E s' l=qcR E s l:=by unfold qcR;rw[h]
theorem QC.of {f np:Nat}{cf:CF}{args args':Nat->List zA}{r r':Nat->zA}(hcf:Tryz.CP f=some cf)(hfl:flI cf np=true)(hl:∀l,(args l).length=np)(ha:∀l,(args l).all qbF=true)(hargs:∀l,(args l).map qaD=args' l)
  (hv:∀l,qaD (r l)=r' l)(hpl:∀l,qmj (r' l)=true)
  (hb:Ev fun n=>∀E s l,qcR E s l=some qbt->∃v s',qau cf (qag Tryz.CP n E) n (args' l) s=some (v,s')/\qaD v=r' l/\s'.heap=s.heap/\s'.next=s.next):QC f args r':=by
 refine Ev.succ (hb.mono fun n h E s l hm=>?_)
 obtain⟨v,s',h,hr,h1,h2⟩:=h E s l hm
 refine⟨s',?_,h1,h2⟩
 rw[qb4]
 exact qfy hcf hfl (hl l) (ha l) (hargs l) h hr (hpl l)
end Go.AI
namespace Go.AI.Tryz
theorem forms_c:Ev fun n=>∀E s,cl (qag CP n E) 58 [] s=some (.map s.next,qcs s qbt):=by
 refine Ev.succ (Ev.of fun n E s=>?_)
 rw[qb4]
 exact qfy (cf:=cf58) (np:=0) (args':=[]) (v:=.map s.next) (by kernel_rfl) (by kernel_rfl) rfl rfl rfl ((s58_eq _ _ _).trans (s58_run _ _ _)) rfl rfl
def qbd (n:Int):Bool:=!decide (n<1)&&!decide (64<n)
def qbh (n m:Int):Bool:=!decide (n<0)&&decide (n<m)
theorem qgD (n:Int):PC CP 193 [i64 n] (bl (qbd n)):=by
 refine PC.of (cf:=cf193) (np:=1) (args':=[i64 n]) (r:=bl (qbd n)) (by kernel_rfl) (by kernel_rfl) rfl rfl rfl rfl (fun _=>rfl) (Ev.of fun _ E s _ _=>⟨s,(s193_eq _ _ _ _).trans ?_⟩)
 unfold s193 s193_0 qbd
 simp only[qaj,qad,qa7,qbl,zab,zaa,qaa]
 cases decide (n<1)<;>rfl
theorem qfA (n m:Int):PC CP 194 [i64 n,i64 m] (bl (qbh n m)):=by
 refine PC.of (cf:=cf194) (np:=2) (args':=[i64 n,i64 m]) (r:=bl (qbh n m)) (by kernel_rfl) (by kernel_rfl) rfl rfl rfl rfl (fun _=>rfl) (Ev.of fun _ E s _ _=>⟨s,(s194_eq _ _ _ _ _).trans ?_⟩)
 unfold s194 s194_0 qbh
 simp only[qaj,qad,qa7,qao,zab,zaa,qaa]
 cases decide (n<0)<;>rfl
theorem qxq (x:Sc)(i:Int)(hl:x.ids.length<=1000000):QC 164 (fun l=>[x.v l,i64 i]) (fun _=> .tuple [((x.get i).getD .none).v,bl (x.get i).isSome]):=by
 refine QC.of (cf:=cf164) (np:=2) (args':=fun l=>[x.v l,i64 i]) (r:=fun _=> .tuple [((x.get i).getD .none).v,bl (x.get i).isSome]) (by kernel_rfl) (by kernel_rfl) (fun _=>rfl) (fun _=>rfl) (fun _=>rfl) (fun _=>rfl) (fun _=>rfl)
  (Ev.of fun n E s l hm=>?_)
 rw[s164_eq]
 suffices ∃v,s164 (qag CP n E) n (x.v l) (i64 i) s=some (v,s)/\qaD v=.tuple [((x.get i).getD .none).v,bl (x.get i).isSome] by
  obtain⟨v,h,h'⟩:=this
  exact⟨v,s,h,h',rfl,rfl⟩
 unfold s164
 have h5:bd [.sl 0 [] .full,bl false,i64 0,bl false] []=some (.agg [.sl 0 [] .full,bl false,i64 0,bl false]):=rfl
 unfold Sc.get Sc.v
 simp only[qaV,zaa,qaj,qad,qao,zab,qaa,qbW,qbq,qaG]
 unfold s164_0
 have hbad:∀j:Option Se,j=.none->∃v,some (zA.tuple [.agg [.sl 0 [] .full,bl false,i64 0,bl false],bl false],s)=some (v,s)/\qaD v=.tuple [(j.getD .none).v,bl j.isSome]:=by
  rintro _ rfl
  exact⟨_,rfl,rfl⟩
 by_cases h1:i<1
 ·simp only[h1,decide_true,cond_true,qaa,if_true,h5,qaV,qbE,qdc,zaa]
  exact hbad _ rfl
 ·simp only[h1,decide_false,cond_false,if_false]
  by_cases h2:Int.ofNat x.ids.length<i
  ·simp only[h2,decide_true,cond_true,qaa,h5,qaV,qbE,qdc,zaa]
   refine hbad _ (List.getElem?_eq_none ?_)
   simp only[zaf] at h2
   omega
  ·simp only[zaf] at h2
   obtain⟨j,rfl⟩:∃j:Nat,i=Int.ofNat j+1:=⟨(i-1).toNat,by simp only[zaf];omega⟩
   simp only[zaf] at h1 h2
   have hj:j<x.ids.length:=by omega
   have hk:x.ids[j]? =some x.ids[j]:=zah hj
   have w:qbb .i64 (Int.ofNat j+1-1)=Int.ofNat j:=by
    rw[qbu (by simp only[zaf];omega) (by simp only[zaf];omega)]
    omega
   have ht:(Int.ofNat j+1-1).toNat=j:=by simp only[zaf];omega
   have h2':¬(Int.ofNat x.ids.length<Int.ofNat j+1):=by simp only[zaf];omega
   have hld:=qdr (c:=Se.cells) (sz:=4) (fun _=>rfl) (qag CP n E) s hk
   simp only[h2',decide_false,cond_false,qaa,qbW,zaa,qad,qa2,zab,w,qbR hj,qab,hld,ht,hk]
   exact⟨_,rfl,rfl⟩
end Go.AI.Tryz
namespace Go.AI.Tryz
theorem qm0 (x:Sc)(i:Int)(hl:x.ids.length<=1000000):QC 106 (fun l=>[x.v l,i64 i]) (fun _=> .tuple [i64 ((x.get i).getD .none).ty.res.n,bl ((x.get i).any fun e=>e.ty.res.cell)]):=by
 refine QC.of (cf:=cf106) (np:=2) (args':=fun l=>[x.v l,i64 i]) (r:=fun _=> .tuple [i64 ((x.get i).getD .none).ty.res.n,bl ((x.get i).any fun e=>e.ty.res.cell)]) (by kernel_rfl) (by kernel_rfl) (fun _=>rfl) (fun _=>rfl) (fun _=>rfl) (fun _=>rfl) (fun _=>rfl)
  ((qxq x i hl).mono fun n h E s l hm=>?_)
 obtain⟨s',h',hh,hn⟩:=h E s l hm
 rw[s106_eq]
 unfold s106
 unfold Sc.v at h'⊢
 simp only[qaV,zaa,qbE,h',qab,qan]
 unfold s106_0
 have hz:∀y:Se,zA.cells (some 4) y.v=some (y.cells.map .p):=fun _=>rfl
 have ho:∀y:Se,over [.sl 0 [] .full,bl false,i64 0,bl false] 0 (y.cells.map .p)=some (y.cells.map .p):=fun _=>rfl
 have h2:∀y:Se,ldL (y.cells.map .p) 2 none=some (i64 y.ty.res.n):=fun _=>rfl
 have h1:∀y:Se,ldL (y.cells.map .p) 1 none=some (bl y.ty.res.cell):=fun _=>rfl
 have g0:∀a b:zA,qeP [a,b] 0=some a:=fun _ _=>rfl
 have g1:∀a b:zA,qeP [a,b] 1=some b:=fun _ _=>rfl
 simp only[g0,g1,zaa,hz,ho,qaj,h2,h1,qaa]
 refine ?_
 cases x.get i with
 |none=>exact⟨_,s',rfl,rfl,hh,hn⟩
 |some y=>exact⟨_,s',rfl,rfl,hh,hn⟩
end Go.AI.Tryz
namespace Go.AI.Tryz
def qjt (s:ASt)(n sz:Nat):ASt:={s with ntok:=s.ntok+1,toks:=(s.ntok,n,sz)::s.toks}
theorem qpB (e:Env){sz b m:Nat}{cs:List zP}(s:ASt)(hl:cs.length=(m+1)*sz)(hb:(m+1)*b<=140737488355328):ap e sz b (.sl 0 [] .full) (.p (.sl (m+1) cs)) s=some (.sl (m+1) cs (.own s.ntok),qjt s (m+1) sz):=by
 unfold ap stV
 have h1:Nat.ble ((0+(m+1))*b) 140737488355328=true:=ble_iff.2 (by rw[zaK];exact hb)
 have h2:Nat.beq cs.length ((m+1)*sz)=true:=qaE hl
 have h3:Nat.beq ([]:List zP).length (0*sz)=true:=qaE (by simp)
 simp only[qaJ,Arg.ev,qdE,zaa,h1,h2,h3,zat,cond_true]
 simp only[Nat.beq,cond_false,zaK,zaJ]
 rfl
theorem qpC {e:Env}{n:Nat}{cf:CF}{args:List zA}{s s':ASt}{v:zA}(hd:args.length<2^cf.depth)(hb:qau cf e n args {s with heap:=[],toks:=[]}=some (v,s'))(hrf:qcJ cf.body=true):qml e n cf args s=some v:=by
 obtain⟨r,h1,h2,h3⟩:=qjk hrf hd hb
 unfold qml
 rw[h1,zaa,h2]
theorem qpD {n f:Nat}{E:qaR}{cf:CF}{args args':List zA}{s s':ASt}{v:zA}(hcf:CP f=some cf)(hp:cf.pure=false)(hc:cf.clone=true)(hkA:cf.keepA=false)(hkR:cf.keepR=true)(hl:args.length=cf.np)(hd:cf.np<2^cf.depth)(ha:args.all qbF=true)
  (hargs:args.map qaD=args')(hn:qgc args'=false)(hb:qau cf (qag CP n E) n args' s=some (v,s'))(hpl:qmj v=true)(hrf:qcJ cf.body=true:=by kernel_rfl):(qag CP (n+1) E).call f args s=some (v,s'):=by
 subst hargs
 rw[qdP]
 unfold qcp
 rw[hcf,zaa,qaE hl,ha,hc,hp,hn,hkA,hkR]
 simp only[zat,zaT,cond_true,cond_false]
 have hlen:(args.map qaD).length<2^cf.depth:=by simp[hl,hd]
 obtain⟨r,h1,h2,h3⟩:=qjk hrf hlen hb
 rw[h1,zaa,h2,zaa,hpl,cond_true,h3]
theorem qm1 {n f:Nat}{E:qaR}{cf:CF}{args:List zA}{s sa sb:ASt}{a b:zA}(hcf:CP f=some cf)(hc:cf.clone=true)(hl:args.length=cf.np)(hd:1<2^cf.depth)(ha:args.all qbF=true)
  (hn:qgc (args.map qaD)=true)(h1:qau cf (qag CP n (s.heap++E)) n [.p .nilSl] {s with heap:=[],toks:=[]}=some (a,sa))(h2:qau cf (qag CP n (s.heap++E)) n [.p .emSl] {s with heap:=[],toks:=[]}=some (b,sb))
  (i1:qe3 a=true)(i2:qe3 b=true)(hrf:qcJ cf.body=true:=by kernel_rfl):(qag CP (n+1) E).call f args s=some (.sl 0 [] .full,s):=by
 rw[qdP]
 unfold qcp
 have e1:qml (qag CP n (s.heap++E)) n cf [.p .nilSl] s=some a:=qpC (by exact hd) h1 hrf
 have e2:qml (qag CP n (s.heap++E)) n cf [.p .emSl] s=some b:=qpC (by exact hd) h2 hrf
 rw[hcf,zaa,qaE hl,ha,hc,hn,e1,e2]
 simp only[zat,cond_true,zaa,i1,i2]
def qpE (s:ASt):List Se->zA×ASt
 |[]=>(.sl 0 [] .full,s)
 |a::r=>(.sl (r.length+1) (qaQ Se.cells (a::r)) (.own s.ntok),qjt s (r.length+1) 4)
theorem qtu (l:List Se)(hl:l.length<=1000000):Ev fun n=>∀E s,cl (qag CP n E) 165 [.p (.sl l.length (qaQ Se.cells l))] s=some (qpE s l):=by
 refine Ev.succ (Ev.of fun n E s=>?_)
 rw[qb4]
 have h3:ms 0 [] []=some (.sl 0 [] .full):=rfl
 cases l with
 |nil=>
  refine qm1 (cf:=cf165) (a:=.sl 0 [] .full) (b:=.sl 0 [] .full) (sa:={s with heap:=[],toks:=[]}) (sb:={s with heap:=[],toks:=[]}) (by kernel_rfl) (by kernel_rfl) (by kernel_rfl) (of_decide_eq_true (by kernel_rfl)) rfl rfl ((s165_eq _ _ _ _).trans ?_) ((s165_eq _ _ _ _).trans ?_) rfl rfl<;>rfl
 |cons a r=>
  refine qpD (cf:=cf165) (args':=[.p (.sl (r.length+1) (qaQ Se.cells (a::r)))]) (by kernel_rfl) (by kernel_rfl) (by kernel_rfl) (by kernel_rfl) (by kernel_rfl) (by kernel_rfl) (of_decide_eq_true (by kernel_rfl)) rfl rfl rfl ((s165_eq _ _ _ _).trans ?_) rfl
  unfold s165
  have hq:eqv 5 false (.p (.sl (r.length+1) (qaQ Se.cells (a::r)))) (.sl 0 [] .full)=some (bl false):=rfl
  have hlen:(qaQ Se.cells (a::r)).length=(r.length+1)*4:=qd4 (c:=Se.cells) (fun _=>rfl) (a::r)
  have hap:=qpB (qag CP n E) (sz:=4) (b:=48) s hlen (by simp only[zar] at hl;omega)
  simp only[hq,zaa,qaa,cond_false,h3,hap,qab]
end Go.AI.Tryz
namespace Go.AI
def Sc.with (x:Sc)(y:Se):Sc:={x with ids:=x.ids++[y]}
theorem qfB {α:Type}(c:α->List zP)(l:List α)(a:α):qaQ c (l++[a])=qaQ c l++c a:=by
 rw[qff]
 simp only[qaQ,zbg]
end Go.AI
namespace Go.AI.Tryz
theorem qsB (x:Sc)(y:Se)(yv:zA)(hya:qbF yv=true)(hye:qaD yv=y.v)(hl:x.ids.length<=1000000):QC 107 (fun l=>[x.v l,yv]) (fun l=>(x.with y).v l):=by
 refine QC.of (cf:=cf107) (np:=2) (args':=fun l=>[x.v l,y.v]) (r:=fun l=>(x.with y).v l) (by kernel_rfl) (by kernel_rfl) (fun _=>rfl) (fun _=>by simp only[zap,hya];rfl) (fun _=>by simp only[zam,hye];rfl) (fun _=>rfl) (fun _=>rfl)
  ((qtu x.ids hl).mono fun n h E s l hm=>?_)
 have h':=h E s
 rw[s107_eq]
 unfold s107
 have hyc:zA.cells (some 4) y.v=some (y.cells.map .p):=rfl
 have hyl:ldL (y.cells.map .p) 0 (some 4)=some y.v:=rfl
 have hms:ms 1 [.sl 0 [],.bool false,.int .i64 0,.bool false] [(0,some 4,.c y.v)]=some (.sl 1 y.cells .full):=rfl
 unfold Sc.v at⊢
 simp only[qaV,zaa,qbW,h',hyc,hyl,hms]
 have hx:∀cs:List zP,∀tk,zA.cells none (.sl (x.ids.length+1) cs tk)=some [.sl (x.ids.length+1) cs tk]:=fun _ _=>rfl
 have hlen:(x.with y).ids.length=x.ids.length+1:=by simp only[Sc.with,zaw,zar,zaB]
 have hrow:qaQ Se.cells (x.with y).ids=qaQ Se.cells x.ids++y.cells:=qfB _ _ _
 rw[hlen,hrow]
 clear hx hlen hrow h'
 cases hi:x.ids with
 |nil=>
  have hap:=qfU (qag CP n E) (sz:=4) (b:=48) (new:=y.cells) (y:=.sl 1 y.cells .full) s rfl rfl (by omega)
  simp only[qpE,qab,zaB,hap,qjo,zaa,qgC,qbE,qaV,qdc]
  exact⟨_,_,rfl,rfl,rfl,rfl⟩
 |cons a r=>
  rw[hi] at hl
  simp only[zar] at hl
  have hap:=qpx (qag CP n E) (sz:=4) (b:=48) (n:=r.length+1) (t:=s.ntok) (cs:=qaQ Se.cells (a::r)) (new:=y.cells) (y:=.sl 1 y.cells .full) (qjt s (r.length+1) 4) rfl rfl (by omega) s.toks
  have e1:{qjt s (r.length+1) 4 with toks:=(s.ntok,r.length+1,4)::s.toks}=qjt s (r.length+1) 4:=rfl
  rw[e1] at hap
  simp only[qpE,qab,zar,hap,qjo,zaa,qgC,qbE,qaV,qdc]
  exact⟨_,_,rfl,rfl,rfl,rfl⟩
end Go.AI.Tryz
namespace Go.AI
structure Form where
 n:Bool
 m:Bool
 i:Bool
 k:Int
def Form.cell (f:Form):zP:=qd5 f.n f.m f.i f.k
def formL:List (Int×Form):=
 [(1,⟨true,true,false,0⟩),(2,⟨false,false,true,-1⟩),(3,⟨false,false,true,0⟩),(4,⟨false,false,true,1⟩),(5,⟨true,true,false,2⟩),(6,⟨true,false,false,1⟩),
  (7,⟨false,false,false,2⟩),(8,⟨false,false,false,3⟩),(9,⟨false,false,false,2⟩),(10,⟨true,true,false,1⟩),(11,⟨false,false,false,2⟩),(12,⟨true,false,false,0⟩),
  (13,⟨false,false,false,2⟩),(14,⟨false,false,false,0⟩),(15,⟨false,false,true,0⟩),(16,⟨false,false,true,0⟩),(17,⟨false,false,false,2⟩),(18,⟨true,false,true,1⟩)]
def qct:List (Int×Form)->Int->Option Form
 |[],_=>none
 |(k,f)::r,i=>if i=k then some f else qct r i
theorem qlU:qbt=formL.map fun x=>(.int .u8 x.1,x.2.cell):=rfl
theorem qkS (i:Int):∀l:List (Int×Form),qdF (l.map fun x=>(.int .u8 x.1,x.2.cell)) (.int .u8 i)=some ((qct l i).map Form.cell)
 |[]=>rfl
 |(k,f)::r=>by
  have:qsV (.int .u8 i) (.int .u8 k)=some (ieq i k):=rfl
  simp only[zam,qdF,this,zaa,qct,qcG]
  by_cases h:i=k
  ·simp only[h,decide_true,cond_true,if_true,zab]
  ·simp only[h,decide_false,cond_false,if_false]
   exact qkS i r
def qbr (t:Tm):Bool:=match qct formL t.k with
 |none=>false
 |some f=>(f.n||decide (t.n=0))&&(f.m||decide (t.m=0))&&(f.i||decide (t.i=0))&&(decide (f.k<0)||decide (f.k=Int.ofNat t.ks.length))
theorem qrC {e:Env}{s:ASt}{l:Nat}{z:zA}{k:Int}(h:qcR e.E s l=some qbt):lk e 1 z true (.map l) (u8 k) s=some (match qct formL k with|some f=> .tuple [.agg [bl f.n,bl f.m,bl f.i,i64 f.k],bl true]|none=> .tuple [z,bl false],s):=by
 unfold lk stV
 simp only[qaJ,Arg.ev,h,zaa,qdK,cond_true]
 rw[qlU,qkS]
 cases qct formL k with
 |none=>rfl
 |some f=>rfl
end Go.AI
namespace Go.AI.Tryz
theorem qcK (x:Sc)(t:Tm):QC 105 (fun l=>[x.v l,t.v]) (fun l=>bl (qbr t)):=by
 refine QC.of (cf:=cf105) (np:=2) (args':=fun l=>[x.v l,t.v]) (r:=fun l=>bl (qbr t)) (by kernel_rfl) (by kernel_rfl) (fun _=>rfl) (fun _=>by simp only[zap,qak];rfl) (fun _=>by simp only[zam,qai];rfl) (fun _=>rfl) (fun _=>rfl)
  (Ev.of fun n E s l hm=>⟨bl (qbr t),s,(s105_eq _ _ _ _ _).trans ?_,rfl,rfl,rfl⟩)
 have hm':qcR (qag CP n E).E s l=some qbt:=by rw[qa9];exact hm
 unfold s105 s105_0
 unfold Sc.v
 simp only[Tm.v_eq,qaV,qa0,qjn,qbK,zaa,qrC hm',qab]
 have g0:∀a b:zA,qeP [a,b] 0=some a:=fun _ _=>rfl
 have g1:∀a b:zA,qeP [a,b] 1=some b:=fun _ _=>rfl
 unfold qbr
 cases qct formL t.k with
 |none=>simp only[qan,g0,g1,zaa,qaV,qdc,qaj,qaa,cond_false]
 |some f=>
  obtain⟨fn,fm,fi,fk⟩:=f
  simp only[qan,g0,g1,zaa,qaV,qdc,qaj,qaa,cond_true,qbW,qlP,qhi,qjn,qcU,qdd,qes,qbH,qbq,qad,qao,qaf,zab]
  generalize decide (fk=Int.ofNat t.ks.length)=b4
  generalize decide (fk<0)=b5
  generalize decide (t.n=0)=b1
  generalize decide (t.m=0)=b2
  generalize decide (t.i=0)=b3
  cases fn<;>cases fm<;>cases fi<;>cases b1<;>cases b2<;>cases b3<;>cases b5<;>rfl
end Go.AI.Tryz
namespace Go.AI
theorem qax (a b:zA):qeP [a,b] 0=some a:=rfl
theorem qay (a b:zA):qeP [a,b] 1=some b:=rfl
abbrev SzC (x:Sc)(t:Tm)(r:Int×Bool):Prop:=QC 163 (fun l=>[x.v l,t.v]) (fun _=> .tuple [i64 r.1,bl r.2])
abbrev IsC (x:Sc)(t:Tm)(n:Int)(b:Bool):Prop:=QC 104 (fun l=>[x.v l,t.v,i64 n]) (fun _=>bl b)
end Go.AI
namespace Go.AI.Tryz
theorem qhY {x:Sc}{t:Tm}{r:Int×Bool}(n:Int)(h:SzC x t r):IsC x t n (r.2&&decide (r.1=n)):=by
 refine QC.of (cf:=cf104) (np:=3) (args':=fun l=>[x.v l,t.v,i64 n]) (r:=fun l=>bl (r.2&&decide (r.1=n))) (by kernel_rfl) (by kernel_rfl) (fun _=>rfl) (fun _=>by simp only[zap,qak];rfl) (fun _=>by simp only[zam,qai];rfl) (fun _=>rfl) (fun _=>rfl)
  (h.mono fun n' h E s l hm=>?_)
 obtain⟨s',h',hh,hn⟩:=h E s l hm
 refine⟨bl (r.2&&decide (r.1=n)),s',(s104_eq _ _ _ _ _ _).trans ?_,rfl,hh,hn⟩
 unfold s104 s104_0
 simp only[Tm.v_eq,Sc.v] at h'⊢
 simp only[qaV,qa0,qbE,qb7,zaa,h',qab,qan,qax,qay,qaj,qaa,qad,qaf,zab]
 cases r.2<;>rfl
theorem qlV {x y:Sc}{t u:Tm}{r q:Int×Bool}(h:SzC y t r)(g:SzC x u q):QC 206 (fun l=>[x.v l,y.v l,t.v,u.v]) (fun _=> .tuple [i64 r.1,bl (r.2&&(q.2&&decide (q.1=r.1)))]):=by
 refine QC.of (cf:=cf206) (np:=4) (args':=fun l=>[x.v l,y.v l,t.v,u.v]) (r:=fun _=> .tuple [i64 r.1,bl (r.2&&(q.2&&decide (q.1=r.1)))]) (by kernel_rfl) (by kernel_rfl) (fun _=>rfl) (fun _=>by simp only[zap,qak];rfl) (fun _=>by simp only[zam,qai];rfl) (fun _=>rfl) (fun _=>rfl)
  ((h.and (qhY r.1 g)).mono fun n' ⟨h,g⟩ E s l hm=>?_)
 obtain⟨s',h',hh,hn⟩:=h E s l hm
 obtain⟨s2,g',gh,gn⟩:=g E s' l (by rw[qaZ hh];exact hm)
 suffices ∃s3,s206 (qag CP n' E) n' (x.v l) (y.v l) t.v u.v s=some (.tuple [i64 r.1,bl (r.2&&(q.2&&decide (q.1=r.1)))],s3)/\s3.heap=s.heap/\s3.next=s.next by
  obtain⟨s3,e,e1,e2⟩:=this
  exact⟨_,s3,(s206_eq _ _ _ _ _ _ _).trans e,rfl,e1,e2⟩
 unfold s206 s206_0
 simp only[Tm.v_eq,Sc.v] at h' g'⊢
 simp only[qaV,qa0,qbE,qb7,zaa,h',qab,qan,qax,qay,qaj,qaa]
 cases hr:r.2
 ·exact⟨s',rfl,hh,hn⟩
 ·simp only[cond_true,g',qab,zay]
  exact⟨s2,rfl,gh.trans hh,gn.trans hn⟩
end Go.AI.Tryz
namespace Go.AI
def qbv (f:Tm->Bs->Bool):List Tm->List Bs->Bool
 |[],[]=>true
 |t::r,b::q=>f t b&&qbv f r q
 |_,_=>false
theorem qfX (f:Tm->Bs->Bool):∀(ks:List Tm) (ps:List Bs),ks.length≠ps.length->qbv f ks ps=false
 |[],[],h=>absurd rfl h
 |[],_::_,_=>rfl
 |_::_,[],_=>rfl
 |t::r,b::q,h=>by
  simp only[qbv,qfX f r q (by simp only[zar] at h;omega),zaT]
theorem Bs.v_eq (b:Bs):b.v=.agg [bl b.cell,i64 b.n]:=rfl
theorem qpF (CP:Nat->Option CF){n:Nat}(hn:1<=n)(E:qaR)(f:Nat)(x a b:zA)(s:ASt):clv (qag CP n E) (.func f [x] []) [a,b] s=cl (qag CP n E) f [x,a,b] s:=by
 obtain⟨m,rfl⟩:∃m,n=m+1:=⟨n-1,by omega⟩
 rw[qhd,qb4]
 rfl
end Go.AI
namespace Go.AI.Tryz
theorem qxr (x:Sc)(ks:List Tm)(ps:List Bs)(f:Tm->Bs->Bool)(h1:ks.length<=maxLen)(hf:∀p∈ks.zip ps,QC 59 (fun l=>[x.v l,p.1.v,p.2.v]) (fun _=>bl (f p.1 p.2))):
  QC 205 (fun l=>[.p (.sl ks.length (Tm.cellsL ks)),.p (.sl ps.length (qaQ Bs.cells ps)),.func 59 [x.v l] []]) (fun _=>bl (qbv f ks ps)):=by
 have hev:Ev fun n=>∀p∈ks.zip ps,∀E s l,qcR E s l=some qbt->∃s',cl (qag CP n E) 59 [x.v l,p.1.v,p.2.v] s=some (bl (f p.1 p.2),s')/\s'.heap=s.heap/\s'.next=s.next:=Ev.all _ hf
 rw[qbM] at h1
 refine QC.of (cf:=cf205) (np:=3) (args':=fun l=>[.p (.sl ks.length (Tm.cellsL ks)),.p (.sl ps.length (qaQ Bs.cells ps)),.func 59 [x.v l] []]) (r:=fun _=>bl (qbv f ks ps)) (by kernel_rfl) (by kernel_rfl) (fun _=>rfl) (fun _=>rfl) (fun _=>rfl) (fun _=>rfl) (fun _=>rfl)
  ((hev.and (Ev.ge (ks.length+1))).mono fun n ⟨hn,hm⟩ E s l hmap=>?_)
 suffices ∃s3,s205 (qag CP n E) n (.p (.sl ks.length (Tm.cellsL ks))) (.p (.sl ps.length (qaQ Bs.cells ps))) (.func 59 [x.v l] []) s=some (bl (qbv f ks ps),s3)/\s3.heap=s.heap/\s3.next=s.next by
  obtain⟨s3,e,e1,e2⟩:=this
  exact⟨_,s3,(s205_eq _ _ _ _ _ _).trans e,rfl,e1,e2⟩
 unfold s205
 simp only[qbq,zaa,qad,qa1,zab,qaa]
 by_cases hl:ks.length=ps.length
 ·have hl':Int.ofNat ks.length=Int.ofNat ps.length:=by rw[hl]
  simp only[hl',decide_true,zak,cond_false]
  rw[<-hl]
  unfold s205_0
  generalize hF:(fun(h14:zA->Nat->Nat->List zA->List zA->ASt->Res) (x8:zA) (g9 g10:Nat) (c11 c12:List zA) (s13:ASt)=>_)=F
  have key:∀k (j g1 g2:Nat) (c1 c2:List zA) (s:ASt),j<=ks.length->ks.length-j<k->qcR E s l=some qbt->∃s3,lp (fun _ _ _ _ _ _=>none) F k (i64 (.ofNat j)) g1 g2 c1 c2 s=some (bl (qbv f (ks.drop j) (ps.drop j)),s3)/\s3.heap=s.heap/\s3.next=s.next:=by
   intro k
   induction k with
   |zero=>intro j _ _ _ _ _ _ h;omega
   |succ k ih=>
    intro j g1 g2 c1 c2 s hj hk hs
    rw[qa6]
    generalize lp _ _ k=L at ih⊢
    subst hF
    rcases zbi j ks.length with h|h
    ·have h':j<ps.length:=by omega
     have hkj:ks[j]? =some ks[j]:=zah h
     have hpj:ps[j]? =some ps[j]:=zah h'
     have hld:=qdr (c:=Bs.cells) (sz:=2) (fun _=>rfl) (qag CP n E) s hpj
     have hld':ldH (qag CP n E) s (.elem (qaQ Bs.cells ps) (j*2)) (some 2)=some (.agg [bl ps[j].cell,i64 ps[j].n]):=hld
     have hz:(ks[j],ps[j])∈ks.zip ps:=by
      have:j<(ks.zip ps).length:=by rw[List.length_zip];omega
      have e:(ks.zip ps)[j]=(ks[j],ps[j]):=List.getElem_zip ..
      rw[<-e]
      exact za4 this
     obtain⟨s',hc,hh,hx⟩:=hn _ hz E s l hs
     have hia:iaV 2 (.p (.sl ks.length (qaQ Bs.cells ps))) (i64 (.ofNat j))=some (qaQ Bs.cells ps,j*2):=by
      rw[hl]
      exact qbR h'
     rw[zaz h,zaz h',qbv]
     rw[Bs.v_eq,Tm.v_eq ks[j]] at hc
     simp only[qad,qao,zab,zaa,of_lt.2 h,decide_true,qaa,cond_true,Tm.ia_kid h,qab,Tm.ld_kid _ _ hkj,Tm.v_eq ks[j],qa0,qhj,za8,hia,hld',qfT,qlN,qb7,qsx,qpF CP (show 1<=n by omega),hc,qam]
     cases f ks[j] ps[j]
     ·exact⟨s',rfl,hh,hx⟩
     ·simp only[zak,cond_false,qaw,zab,zaa,qaN (show j<9223372036854775807 by omega),zay]
      obtain⟨s3,e,e1,e2⟩:=ih (j+1) (g1+1) (g2+1) _ _ s' (by omega) (by omega) (by rw[qaZ hh];exact hs)
      exact⟨s3,e,e1.trans hh,e2.trans hx⟩
    ·have:j=ks.length:=by omega
     subst this
     have h3:¬(Int.ofNat ks.length<Int.ofNat ks.length):=fun h=>zaX _ (of_lt.1 h)
     simp only[qad,qao,zab,zaa,h3,decide_false,qaa,cond_false]
     rw[zbb]
     rw[List.drop_of_length_le (by omega)]
     exact⟨s,rfl,rfl,rfl⟩
  exact key n 0 0 0 [] [] s (zaY _) (by omega) hmap
 ·have hl':¬(Int.ofNat ks.length=Int.ofNat ps.length):=by simp only[zaf];omega
  simp only[hl',decide_false,zal,cond_true]
  exact⟨s,by rw[qfX f ks ps hl],rfl,rfl⟩
end Go.AI.Tryz
namespace Go.AI.Tryz
theorem qpG (x:Sc)(ks:List Tm)(ps:List Bs)(f:Tm->Bs->Bool)(h1:ks.length<=maxLen)(hf:∀p∈ks.zip ps,QC 59 (fun l=>[x.v l,p.1.v,p.2.v]) (fun _=>bl (f p.1 p.2))):
  QC 195 (fun l=>[x.v l,.p (.sl ks.length (Tm.cellsL ks)),.p (.sl ps.length (qaQ Bs.cells ps))]) (fun _=>bl (qbv f ks ps)):=by
 refine QC.of (cf:=cf195) (np:=3) (args':=fun l=>[x.v l,.p (.sl ks.length (Tm.cellsL ks)),.p (.sl ps.length (qaQ Bs.cells ps))]) (r:=fun _=>bl (qbv f ks ps)) (by kernel_rfl) (by kernel_rfl) (fun _=>rfl) (fun _=>rfl) (fun _=>rfl) (fun _=>rfl) (fun _=>rfl)
  ((qxr x ks ps f h1 hf).mono fun n h E s l hmap=>?_)
 obtain⟨s',h',hh,hn⟩:=h E s l hmap
 refine⟨bl (qbv f ks ps),s',(s195_eq _ _ _ _ _ _).trans ?_,rfl,hh,hn⟩
 unfold s195
 unfold Sc.v at h'⊢
 have hmf:∀a b c d:zA,ldL [a,b,c,d] 0 (some 4)=some (.agg [a,b,c,d]):=fun _ _ _ _=>rfl
 have hm:mf 59 [.agg [.p (.sl x.ids.length (qaQ Se.cells x.ids)),i64 x.top,i64 x.size,.map l]] []=some (.func 59 [.agg [.p (.sl x.ids.length (qaQ Se.cells x.ids)),i64 x.top,i64 x.size,.map l]] []):=rfl
 simp only[qaV,zaa,hmf,hm,h',qab]
def qdy (sz:Sc->Tm->Int×Bool)(x:Sc)(t:Tm)(b:Bs):Bool:=
 if b.cell then
  qbr t&&
   (if t.k=16 then(match x.get t.i with|some e=>e.ty.res.cell&&decide (e.ty.res.n=b.n)|none=>false)
    else if t.k=17 then
     (match t.ks with
      |u::w::_=>((sz x u).2&&decide ((sz x u).1=b.n))&&((sz (x.with ⟨⟨[],⟨false,b.n⟩⟩,true⟩) w).2&&decide ((sz (x.with ⟨⟨[],⟨false,b.n⟩⟩,true⟩) w).1=1))
      |_=>false)
    else false)
 else(sz x t).2&&decide ((sz x t).1=b.n)
theorem qm2 {sz:Sc->Tm->Int×Bool}{x:Sc}{t:Tm}(b:Bs)(hl:x.ids.length<=1000000)(h0:SzC x t (sz x t))(hk:∀u w r,t.ks=u::w::r->SzC x u (sz x u)/\SzC (x.with ⟨⟨[],⟨false,b.n⟩⟩,true⟩) w (sz (x.with ⟨⟨[],⟨false,b.n⟩⟩,true⟩) w)):
  QC 59 (fun l=>[x.v l,t.v,b.v]) (fun _=>bl (qdy sz x t b)):=by
 refine QC.of (cf:=cf59) (np:=3) (args':=fun l=>[x.v l,t.v,b.v]) (r:=fun _=>bl (qdy sz x t b)) (by kernel_rfl) (by kernel_rfl) (fun _=>rfl) (fun _=>by simp only[zap,qak];rfl) (fun _=>by simp only[zam,qai];rfl) (fun _=>rfl) (fun _=>rfl) ?_
 have hu:∀u w r,t.ks=u::w::r->Ev fun n=>∀E s l,qcR E s l=some qbt->∃s',cl (qag CP n E) 104 [x.v l,u.v,i64 b.n] s=some (bl ((sz x u).2&&decide ((sz x u).1=b.n)),s')/\s'.heap=s.heap/\s'.next=s.next:=fun u w r e=>qhY b.n (hk u w r e).1
 suffices hmain:Ev fun n=>∀E s l,qcR E s l=some qbt->∃s3,s59 (qag CP n E) n (x.v l) t.v b.v s=some (bl (qdy sz x t b),s3)/\s3.heap=s.heap/\s3.next=s.next by
  refine hmain.mono fun n h E s l hm=>?_
  obtain⟨s3,e,e1,e2⟩:=h E s l hm
  exact⟨_,s3,(s59_eq _ _ _ _ _ _).trans e,rfl,e1,e2⟩
 cases hb:b.cell with
 |false=>
  refine(qhY b.n h0).mono fun n h E s l hm=>?_
  obtain⟨s',h',hh,hn⟩:=h E s l hm
  refine⟨s',?_,hh,hn⟩
  unfold s59 qdy
  simp only[Tm.v_eq,Sc.v,Bs.v_eq,hb] at h'⊢
  simp only[qaV,qa0,qfT,qpq,qjm,qbE,qb7,zaa,qam,qaa,zal,cond_true,h',qab]
  rfl
 |true=>
  let y:Se:=⟨⟨[],⟨false,b.n⟩⟩,true⟩
  have hEv:Ev fun n=>∀u w r,t.ks=u::w::r->(∀E s l,qcR E s l=some qbt->∃s',cl (qag CP n E) 104 [x.v l,u.v,i64 b.n] s=some (bl ((sz x u).2&&decide ((sz x u).1=b.n)),s')/\s'.heap=s.heap/\s'.next=s.next)/\
    (∀E s l,qcR E s l=some qbt->∃s',cl (qag CP n E) 104 [(x.with y).v l,w.v,i64 1] s=some (bl ((sz (x.with y) w).2&&decide ((sz (x.with y) w).1=1)),s')/\s'.heap=s.heap/\s'.next=s.next):=by
   match hks:t.ks with
   |[]=>exact Ev.of fun n u w r h=>nomatch h
   |[_]=>exact Ev.of fun n u w r h=>nomatch h
   |u::w::r=>
    refine((qhY b.n (hk u w r hks).1).and (qhY 1 (hk u w r hks).2)).mono fun n ⟨h1,h2⟩ u' w' r' h=>?_
    injection h with e1 e2
    injection e2 with e2 e3
    subst e1;subst e2
    exact⟨h1,h2⟩
  refine(((qcK x t).and (qm0 x t.i hl)).and (hEv.and (qsB x y (.agg [.sl 0 [] .full,bl false,i64 b.n,bl true]) rfl rfl hl))).mono fun n ⟨⟨hf,hc⟩,⟨hk2,hw⟩⟩ E s l hm=>?_
  obtain⟨s1,f1,f2,f3⟩:=hf E s l hm
  have hm1:qcR E s1 l=some qbt:=by rw[qaZ f2];exact hm
  unfold s59 qdy
  simp only[Tm.v_eq,Sc.v,Bs.v_eq,hb] at f1⊢
  simp only[qaV,qa0,qfT,qpq,qjm,qbE,qb7,zaa,qam,qaa,zak,cond_false,f1,qab]
  cases hok:qbr t with
  |false=>exact⟨s1,rfl,f2,f3⟩
  |true=>
   simp only[zak,cond_false,qbK,zaa,qad,qaf,zab,qaa,if_true,zay]
   by_cases k16:t.k=16
   ·obtain⟨s2,c1,c2,c3⟩:=hc E s1 l hm1
    simp only[Sc.v] at c1
    simp only[k16,decide_true,cond_true,if_true,qes,zaa,c1,qab,qan,qax,qay,qaj,s59_0]
    refine⟨s2,?_,c2.trans f2,c3.trans f3⟩
    cases x.get t.i with
    |none=>rfl
    |some e=>
     simp only[zaE,Option.any_some,qaa,qad,qaf,zab,zaa]
     cases e.ty.res.cell<;>rfl
   ·simp only[k16,decide_false,cond_false,if_false]
    by_cases k17:t.k=17
    ·have hlen:t.ks.length=2:=by
      unfold qbr at hok
      rw[k17] at hok
      have e:qct formL 17=some ⟨false,false,false,2⟩:=rfl
      simp only[e,zag] at hok
      have:=hok.2
      simp only[za5,decide_eq_true_eq,zaf] at this
      omega
     obtain⟨u,w,hks⟩:∃u w,t.ks=[u,w]:=by
      match h:t.ks,hlen with
      |[u,w],_=>exact⟨u,w,rfl⟩
     obtain⟨g1,g2⟩:=hk2 u w [] hks
     obtain⟨s2,a1,a2,a3⟩:=g1 E s1 l hm1
     have hm2:qcR E s2 l=some qbt:=by rw[qaZ a2];exact hm1
     obtain⟨s3,b1,b2,b3⟩:=hw E s2 l hm2
     have hm3:qcR E s3 l=some qbt:=by rw[qaZ b2];exact hm2
     obtain⟨s4,d1,d2,d3⟩:=g2 E s3 l hm3
     have i0:iaV 5 (.p (.sl t.ks.length (Tm.cellsL t.ks))) (i64 0)=some (Tm.cellsL t.ks,0*5):=Tm.ia_kid (j:=0) (by omega)
     have i1:iaV 5 (.p (.sl t.ks.length (Tm.cellsL t.ks))) (i64 1)=some (Tm.cellsL t.ks,1*5):=Tm.ia_kid (j:=1) (by omega)
     have l0:∀s,ldH (qag CP n E) s (.elem (Tm.cellsL t.ks) (0*5)) (some 5)=some u.v:=fun s=>Tm.ld_kid _ _ (by rw[hks];rfl)
     have l1:∀s,ldH (qag CP n E) s (.elem (Tm.cellsL t.ks) (1*5)) (some 5)=some w.v:=fun s=>Tm.ld_kid _ _ (by rw[hks];rfl)
     have q1:bd [bl false,i64 0] [(1,none,.c (i64 b.n))]=some (.agg [bl false,i64 b.n]):=rfl
     have q2:bd [.sl 0 [] .full,bl false,i64 0] [(1,some 2,.c (.agg [bl false,i64 b.n]))]=some (.agg [.sl 0 [] .full,bl false,i64 b.n]):=rfl
     have q3:bd [.sl 0 [] .full,bl false,i64 0,bl false] [(0,some 3,.c (.agg [.sl 0 [] .full,bl false,i64 b.n])),(3,none,.c (bl true))]=some (.agg [.sl 0 [] .full,bl false,i64 b.n,bl true]):=rfl
     simp only[Sc.v] at a1 b1 d1
     simp only[k17,decide_true,cond_true,if_true,qaj,qbH,zaa,i0,qab,l0,a1,qaa]
     rw[hks]
     simp only
     cases(sz x u).2&&decide ((sz x u).1=b.n) with
     |false=>exact⟨s2,rfl,a2.trans f2,a3.trans f3⟩
     |true=>
      simp only[cond_true,q1,q2,q3,zaa,b1,qab]
      rw[<-hks]
      simp only[i1,l1,qab,zaa,d1,s59_1,zay]
      exact⟨s4,rfl,d2.trans (b2.trans (a2.trans f2)),d3.trans (b3.trans (a3.trans f3))⟩
    ·simp only[k17,decide_false,cond_false,if_false]
     exact⟨s1,rfl,f2,f3⟩
end Go.AI.Tryz
namespace Go.AI.Tryz
theorem Tm.ia0 {l:List Tm}(h:0<l.length):iaV 5 (.p (.sl l.length (Tm.cellsL l))) (i64 0)=some (Tm.cellsL l,0*5):=Tm.ia_kid (j:=0) h
theorem Tm.ia1 {l:List Tm}(h:1<l.length):iaV 5 (.p (.sl l.length (Tm.cellsL l))) (i64 1)=some (Tm.cellsL l,1*5):=Tm.ia_kid (j:=1) h
abbrev is2 (r:Int×Bool)(n:Int):Bool:=r.2&&decide (r.1=n)
def qcN (sz:Sc->Tm->Int×Bool)(x:Sc)(t:Tm):Int×Bool:=
 match t.ks with
 |[u]=>(t.n,(sz x u).2&&qbd t.n)
 |u::w::_=>
  if t.n=1\/t.n=2\/t.n=3 then(t.m,qbd t.m&&(is2 (sz x u) t.m&&is2 (sz x w) t.m))
  else if t.n=4\/t.n=5 then(2,qbd t.m&&(is2 (sz x u) t.m&&is2 (sz x w) t.m)) else(0,false)
 |[]=>(0,false)
theorem qrD {sz:Sc->Tm->Int×Bool}{x:Sc}{t u:Tm}(hks:t.ks=[u])(h6:t.k=6)(h:SzC x u (sz x u)):QC 196 (fun l=>[x.v l,t.v]) (fun _=> .tuple [i64 (qcN sz x t).1,bl (qcN sz x t).2]):=by
 refine QC.of (cf:=cf196) (np:=2) (args':=fun l=>[x.v l,t.v]) (r:=fun _=> .tuple [i64 (qcN sz x t).1,bl (qcN sz x t).2]) (by kernel_rfl) (by kernel_rfl) (fun _=>rfl) (fun _=>by simp only[zap,qak];rfl) (fun _=>by simp only[zam,qai];rfl) (fun _=>rfl) (fun _=>rfl)
  ((h.and (qgD t.n)).mono fun n ⟨h,hz⟩ E s l hm=>?_)
 obtain⟨s',h',hh,hn⟩:=h E s l hm
 refine⟨.tuple [i64 (qcN sz x t).1,bl (qcN sz x t).2],s',(s196_eq _ _ _ _ _).trans ?_,rfl,hh,hn⟩
 have hz':=hz E s'
 have hr:qcN sz x t=(t.n,(sz x u).2&&qbd t.n):=by unfold qcN;rw[hks]
 have l0:∀s,ldH (qag CP n E) s (.elem (Tm.cellsL t.ks) (0*5)) (some 5)=some u.v:=fun s=>Tm.ld_kid _ _ (by rw[hks];rfl)
 have i0:=Tm.ia0 (l:=t.ks) (by simp[hks])
 unfold s196
 rw[hr]
 simp only[Sc.v] at h'
 simp only[Tm.v_eq t,Sc.v,qaV,qa0,qbE,qbK,qbH,qcU,h6,qad,qaf,zab,zaa,decide_true,qaa,cond_true,i0,l0,qab,h',qan,qax,qay,qaj,s196_0]
 cases(sz x u).2
 ·rfl
 ·simp only[cond_true,hz',qab,zay]
theorem qrE {sz:Sc->Tm->Int×Bool}{x:Sc}{t u w:Tm}(hks:t.ks=[u,w])(h5:t.k=5)(h:SzC x u (sz x u))(g:SzC x w (sz x w)):QC 196 (fun l=>[x.v l,t.v]) (fun _=> .tuple [i64 (qcN sz x t).1,bl (qcN sz x t).2]):=by
 refine QC.of (cf:=cf196) (np:=2) (args':=fun l=>[x.v l,t.v]) (r:=fun _=> .tuple [i64 (qcN sz x t).1,bl (qcN sz x t).2]) (by kernel_rfl) (by kernel_rfl) (fun _=>rfl) (fun _=>by simp only[zap,qak];rfl) (fun _=>by simp only[zam,qai];rfl) (fun _=>rfl) (fun _=>rfl)
  (((qhY t.m h).and ((qhY t.m g).and (qgD t.m))).mono fun n ⟨h,g,hz⟩ E s l hm=>?_)
 obtain⟨s1,a1,a2,a3⟩:=h E s l hm
 obtain⟨s2,b1,b2,b3⟩:=g E s1 l (by rw[qaZ a2];exact hm)
 have hz':=hz E s
 have l0:∀s,ldH (qag CP n E) s (.elem (Tm.cellsL t.ks) (0*5)) (some 5)=some u.v:=fun s=>Tm.ld_kid _ _ (by rw[hks];rfl)
 have l1:∀s,ldH (qag CP n E) s (.elem (Tm.cellsL t.ks) (1*5)) (some 5)=some w.v:=fun s=>Tm.ld_kid _ _ (by rw[hks];rfl)
 have i0:=Tm.ia0 (l:=t.ks) (by simp[hks])
 have i1:=Tm.ia1 (l:=t.ks) (by simp[hks])
 suffices ∃s3,s196 (qag CP n E) n (x.v l) t.v s=some (.tuple [i64 (qcN sz x t).1,bl (qcN sz x t).2],s3)/\s3.heap=s.heap/\s3.next=s.next by
  obtain⟨s3,e,e1,e2⟩:=this
  exact⟨_,s3,(s196_eq _ _ _ _ _).trans e,rfl,e1,e2⟩
 let ok:Bool:=qbd t.m&&(is2 (sz x u) t.m&&is2 (sz x w) t.m)
 have hr:qcN sz x t=if t.n=1\/t.n=2\/t.n=3 then(t.m,ok) else if t.n=4\/t.n=5 then(2,ok) else(0,false):=by unfold qcN;rw[hks]
 have hfin:∀(c:Bool) (s3:ASt),c=ok->s196_4 (qag CP n E) n [u8 t.k,i64 t.n,i64 t.m,i64 t.i,.p (.sl t.ks.length (Tm.cellsL t.ks))] (bl c) s3=some (.tuple [i64 (qcN sz x t).1,bl (qcN sz x t).2],s3):=by
  intro c s3 hc
  rw[hr,<-hc]
  unfold s196_4 s196_3 s196_2 s196_1
  simp only[qcU,qdd,qaj,qad,qaf,zab,zaa,qaa]
  by_cases e1:t.n=1
  ·simp only[e1,decide_true,cond_true,true_or,if_true]
  ·by_cases e2:t.n=2
   ·simp only[e2,show¬((2:Int)=1) by decide,decide_true,decide_false,cond_true,cond_false,true_or,or_true,if_true]
   ·by_cases e3:t.n=3
    ·simp only[e3,show¬((3:Int)=1) by decide,show¬((3:Int)=2) by decide,decide_true,decide_false,cond_true,cond_false,or_true,if_true]
    ·by_cases e4:t.n=4
     ·simp only[e4,show¬((4:Int)=1) by decide,show¬((4:Int)=2) by decide,show¬((4:Int)=3) by decide,decide_true,decide_false,cond_true,cond_false,true_or,or_self,if_true,if_false]
     ·by_cases e5:t.n=5
      ·simp only[e5,show¬((5:Int)=1) by decide,show¬((5:Int)=2) by decide,show¬((5:Int)=3) by decide,show¬((5:Int)=4) by decide,decide_true,decide_false,cond_true,cond_false,or_true,or_self,if_true,if_false]
      ·simp only[e1,e2,e3,e4,e5,decide_false,cond_false,or_self,if_false]
 have h65:decide (t.k=6)=false:=by rw[h5];rfl
 unfold s196
 simp only[Sc.v] at a1 b1
 simp only[Tm.v_eq t,Sc.v,qaV,qa0,qbE,qbK,qbH,qdd,h65,qad,qaf,zab,zaa,qaa,cond_false,i0,l0,i1,l1,qab,qaj,hz']
 have f0:ok=false->∀s3,s196_4 (qag CP n E) n [u8 t.k,i64 t.n,i64 t.m,i64 t.i,.p (.sl t.ks.length (Tm.cellsL t.ks))] (bl false) s3=some (.tuple [i64 (qcN sz x t).1,bl (qcN sz x t).2],s3):=fun h s3=>hfin false s3 h.symm
 cases q1:qbd t.m with
 |false=>
  have hk0:ok=false:=by show(qbd t.m&&_)=false;rw[q1];rfl
  rw[cond_false,f0 hk0 s]
  exact⟨s,rfl,rfl,rfl⟩
 |true=>
  rw[cond_true,a1,qab,qaa]
  cases q2:((sz x u).2&&decide ((sz x u).1=t.m)) with
  |false=>
   have hk0:ok=false:=by show(qbd t.m&&(((sz x u).2&&decide ((sz x u).1=t.m))&&_))=false;rw[q1,q2];rfl
   rw[cond_false,f0 hk0 s1]
   exact⟨s1,rfl,a2,a3⟩
  |true=>
   have hk0:((sz x w).2&&decide ((sz x w).1=t.m))=ok:=by show _=(qbd t.m&&(((sz x u).2&&decide ((sz x u).1=t.m))&&((sz x w).2&&decide ((sz x w).1=t.m))));rw[q1,q2];rfl
   rw[cond_true,b1,qab,hfin _ s2 hk0]
   exact⟨s2,rfl,b2.trans a2,b3.trans a3⟩
end Go.AI.Tryz
namespace Go.AI.Tryz
def qbI (sz:Sc->Tm->Int×Bool)(x:Sc)(t:Tm):Int×Bool:=
 match t.ks with
 |[u]=>
  if t.k=10 then((sz (x.with ⟨⟨[],⟨true,t.n⟩⟩,false⟩) u).1,(sz (x.with ⟨⟨[],⟨true,t.n⟩⟩,false⟩) u).2&&(qbd t.n&&qbh t.m t.n))
  else if t.k=18 then((sz x u).1,(sz x u).2&&(((x.get t.i).any fun e=>e.ty.res.cell)&&(decide (x.top<t.i)&&qbh t.n ((x.get t.i).getD .none).ty.res.n)))
  else(0,false)
 |[u,w]=>
  if t.k=7 then((sz x w).1,(sz x w).2&&is2 (sz x u) 1)
  else if t.k=9 then(1,(sz x u).2&&is2 (sz x w) 1)
  else if t.k=11 then((sz {x with size:=x.size+1} u).1,(sz {x with size:=x.size+1} u).2&&is2 (sz x w) (sz {x with size:=x.size+1} u).1)
  else if t.k=13 then((sz x u).1,(sz x u).2&&is2 (sz x w) (sz x u).1)
  else(0,false)
 |[c,u,w]=>if t.k=8 then((sz x u).1,((sz x u).2&&is2 (sz x w) (sz x u).1)&&(sz x c).2) else(0,false)
 |_=>(0,false)
abbrev PtC (x:Sc)(t:Tm)(r:Int×Bool):Prop:=QC 197 (fun l=>[x.v l,t.v]) (fun _=> .tuple [i64 r.1,bl r.2])
theorem PtC.of {x:Sc}{t:Tm}{r:Int×Bool}(h:Ev fun n=>∀E s l,qcR E s l=some qbt->∃s',s197 (qag CP n E) n (x.v l) t.v s=some (.tuple [i64 r.1,bl r.2],s')/\s'.heap=s.heap/\s'.next=s.next):PtC x t r:=by
 refine QC.of (cf:=cf197) (np:=2) (args':=fun l=>[x.v l,t.v]) (r:=fun _=> .tuple [i64 r.1,bl r.2]) (by kernel_rfl) (by kernel_rfl) (fun _=>rfl) (fun _=>by simp only[zap,qak];rfl) (fun _=>by simp only[zam,qai];rfl) (fun _=>rfl) (fun _=>rfl) (h.mono fun n h E s l hm=>?_)
 obtain⟨s',e,e1,e2⟩:=h E s l hm
 exact⟨_,s',(s197_eq _ _ _ _ _).trans e,rfl,e1,e2⟩
theorem qb8 {n:Nat}{E:qaR}{l:List Tm}{u:Tm}(h:l[0]? =some u):iaV 5 (.p (.sl l.length (Tm.cellsL l))) (i64 0)=some (Tm.cellsL l,0*5)/\∀s,ldH (qag CP n E) s (.elem (Tm.cellsL l) (0*5)) (some 5)=some u.v:=
 ⟨Tm.ia_kid (j:=0) (zao.1 h).1,fun s=>Tm.ld_kid _ _ h⟩
theorem qdz {n:Nat}{E:qaR}{l:List Tm}{u:Tm}(h:l[1]? =some u):iaV 5 (.p (.sl l.length (Tm.cellsL l))) (i64 1)=some (Tm.cellsL l,1*5)/\∀s,ldH (qag CP n E) s (.elem (Tm.cellsL l) (1*5)) (some 5)=some u.v:=
 ⟨Tm.ia_kid (j:=1) (zao.1 h).1,fun s=>Tm.ld_kid _ _ h⟩
theorem qn5 {n:Nat}{E:qaR}{l:List Tm}{u:Tm}(h:l[2]? =some u):iaV 5 (.p (.sl l.length (Tm.cellsL l))) (i64 2)=some (Tm.cellsL l,2*5)/\∀s,ldH (qag CP n E) s (.elem (Tm.cellsL l) (2*5)) (some 5)=some u.v:=
 ⟨Tm.ia_kid (j:=2) (zao.1 h).1,fun s=>Tm.ld_kid _ _ h⟩
section
variable {sz:Sc->Tm->Int×Bool} {x:Sc} {t u w c:Tm}
theorem qvv (hks:t.ks=[u,w])(hk:t.k=7)(h:SzC x u (sz x u))(g:SzC x w (sz x w)):PtC x t (qbI sz x t):=by
 have hr:qbI sz x t=((sz x w).1,(sz x w).2&&is2 (sz x u) 1):=by unfold qbI;rw[hks];simp only[hk,if_true]
 rw[hr]
 refine PtC.of ((g.and (qhY 1 h)).mono fun n ⟨g,h⟩ E s l hm=>?_)
 obtain⟨s1,a1,a2,a3⟩:=g E s l hm
 obtain⟨s2,b1,b2,b3⟩:=h E s1 l (by rw[qaZ a2];exact hm)
 obtain⟨i0,l0⟩:=qb8 (n:=n) (E:=E) (l:=t.ks) (u:=u) (by rw[hks];rfl)
 obtain⟨i1,l1⟩:=qdz (n:=n) (E:=E) (l:=t.ks) (u:=w) (by rw[hks];rfl)
 simp only[Sc.v] at a1 b1
 unfold s197 s197_0
 simp only[Tm.v_eq t,Sc.v,hk,qaV,qa0,qbE,qbK,qbH,qad,qaf,zab,zaa,decide_true,qaa,cond_true,i1,l1,i0,l0,qab,a1,qan,qax,qay,qaj]
 cases(sz x w).2
 ·exact⟨s1,rfl,a2,a3⟩
 ·simp only[cond_true,b1,qab,zay]
  exact⟨s2,rfl,b2.trans a2,b3.trans a3⟩
theorem qvw (hks:t.ks=[u,w])(hk:t.k=9)(h:SzC x u (sz x u))(g:SzC x w (sz x w)):PtC x t (qbI sz x t):=by
 have hr:qbI sz x t=(1,(sz x u).2&&is2 (sz x w) 1):=by unfold qbI;rw[hks];simp[hk]
 rw[hr]
 refine PtC.of ((h.and (qhY 1 g)).mono fun n ⟨g,h⟩ E s l hm=>?_)
 obtain⟨s1,a1,a2,a3⟩:=g E s l hm
 obtain⟨s2,b1,b2,b3⟩:=h E s1 l (by rw[qaZ a2];exact hm)
 obtain⟨i0,l0⟩:=qb8 (n:=n) (E:=E) (l:=t.ks) (u:=u) (by rw[hks];rfl)
 obtain⟨i1,l1⟩:=qdz (n:=n) (E:=E) (l:=t.ks) (u:=w) (by rw[hks];rfl)
 simp only[Sc.v] at a1 b1
 unfold s197 s197_2
 simp only[Tm.v_eq t,Sc.v,hk,qaV,qa0,qbE,qbK,qbH,qad,qaf,zab,zaa,zaj,decide_true,decide_false,qaa,cond_true,cond_false,i1,l1,i0,l0,qab,a1,qan,qax,qay,qaj]
 cases(sz x u).2
 ·exact⟨s1,rfl,a2,a3⟩
 ·simp only[cond_true,b1,qab,zay]
  exact⟨s2,rfl,b2.trans a2,b3.trans a3⟩
theorem qvx (hks:t.ks=[c,u,w])(hk:t.k=8)(h:SzC x u (sz x u))(g:SzC x w (sz x w))(gc:SzC x c (sz x c)):PtC x t (qbI sz x t):=by
 have hr:qbI sz x t=((sz x u).1,((sz x u).2&&is2 (sz x w) (sz x u).1)&&(sz x c).2):=by unfold qbI;rw[hks];simp[hk]
 rw[hr]
 refine PtC.of (((qlV h g).and gc).mono fun n ⟨g,h⟩ E s l hm=>?_)
 obtain⟨s1,a1,a2,a3⟩:=g E s l hm
 obtain⟨s2,b1,b2,b3⟩:=h E s1 l (by rw[qaZ a2];exact hm)
 obtain⟨i0,l0⟩:=qb8 (n:=n) (E:=E) (l:=t.ks) (u:=c) (by rw[hks];rfl)
 obtain⟨i1,l1⟩:=qdz (n:=n) (E:=E) (l:=t.ks) (u:=u) (by rw[hks];rfl)
 obtain⟨i2,l2⟩:=qn5 (n:=n) (E:=E) (l:=t.ks) (u:=w) (by rw[hks];rfl)
 simp only[Sc.v] at a1 b1
 unfold s197 s197_1
 simp only[Tm.v_eq t,Sc.v,hk,qaV,qa0,qbE,qbK,qbH,qad,qaf,zab,zaa,zaj,decide_true,decide_false,qaa,cond_true,cond_false,i1,l1,i0,l0,i2,l2,qab,a1,b1,qan,qax,qay,qaj]
 refine⟨s2,?_,b2.trans a2,b3.trans a3⟩
 simp only[is2]
 cases decide ((sz x w).1=(sz x u).1)<;>cases(sz x w).2<;>cases(sz x u).2<;>rfl
theorem qtv (hks:t.ks=[u,w])(hk:t.k=13)(h:SzC x u (sz x u))(g:SzC x w (sz x w)):PtC x t (qbI sz x t):=by
 have hr:qbI sz x t=((sz x u).1,(sz x u).2&&is2 (sz x w) (sz x u).1):=by unfold qbI;rw[hks];simp[hk]
 rw[hr]
 refine PtC.of ((qlV h g).mono fun n g E s l hm=>?_)
 obtain⟨s1,a1,a2,a3⟩:=g E s l hm
 obtain⟨i0,l0⟩:=qb8 (n:=n) (E:=E) (l:=t.ks) (u:=u) (by rw[hks];rfl)
 obtain⟨i1,l1⟩:=qdz (n:=n) (E:=E) (l:=t.ks) (u:=w) (by rw[hks];rfl)
 simp only[Sc.v] at a1
 unfold s197
 simp only[Tm.v_eq t,Sc.v,hk,qaV,qa0,qbE,qbK,qbH,qad,qaf,zab,zaa,zaj,decide_true,decide_false,qaa,cond_true,cond_false,i1,l1,i0,l0,qab,a1,qan,qax,qay,qaj]
 exact⟨s1,rfl,a2,a3⟩
theorem qtw (hks:t.ks=[u,w])(hk:t.k=11)(hb:0<=x.size)(hb2:x.size<=1000000)(h:SzC {x with size:=x.size+1} u (sz {x with size:=x.size+1} u))(g:SzC x w (sz x w)):PtC x t (qbI sz x t):=by
 have hr:qbI sz x t=((sz {x with size:=x.size+1} u).1,(sz {x with size:=x.size+1} u).2&&is2 (sz x w) (sz {x with size:=x.size+1} u).1):=by unfold qbI;rw[hks];simp[hk]
 rw[hr]
 refine PtC.of ((qlV h g).mono fun n g E s l hm=>?_)
 obtain⟨s1,a1,a2,a3⟩:=g E s l hm
 obtain⟨i0,l0⟩:=qb8 (n:=n) (E:=E) (l:=t.ks) (u:=u) (by rw[hks];rfl)
 obtain⟨i1,l1⟩:=qdz (n:=n) (E:=E) (l:=t.ks) (u:=w) (by rw[hks];rfl)
 simp only[Sc.v] at a1
 have hw:qbb .i64 (x.size+1)=x.size+1:=qbu (by omega) (by omega)
 unfold s197
 simp only[Tm.v_eq t,Sc.v,hk,qaV,qa0,qbE,qbK,qbH,qad,qaf,qaw,hw,qhi,qrx,qdc,qby,zab,zaa,zaj,decide_true,decide_false,qaa,cond_true,cond_false,i1,l1,i0,l0,qab,a1,qan,qax,qay,qaj]
 exact⟨s1,rfl,a2,a3⟩
theorem qtx (hks:t.ks=[u])(hk:t.k=10)(hl:x.ids.length<=1000000)(h:SzC (x.with ⟨⟨[],⟨true,t.n⟩⟩,false⟩) u (sz (x.with ⟨⟨[],⟨true,t.n⟩⟩,false⟩) u)):PtC x t (qbI sz x t):=by
 have hr:qbI sz x t=((sz (x.with ⟨⟨[],⟨true,t.n⟩⟩,false⟩) u).1,(sz (x.with ⟨⟨[],⟨true,t.n⟩⟩,false⟩) u).2&&(qbd t.n&&qbh t.m t.n)):=by unfold qbI;rw[hks];simp[hk]
 rw[hr]
 refine PtC.of ((h.and ((qsB x ⟨⟨[],⟨true,t.n⟩⟩,false⟩ (.agg [.sl 0 [] .full,bl true,i64 t.n,bl false]) rfl rfl hl).and ((qgD t.n).and (qfA t.m t.n)))).mono fun n ⟨h,hw,hz,hb⟩ E s l hm=>?_)
 obtain⟨s1,a1,a2,a3⟩:=hw E s l hm
 obtain⟨s2,b1,b2,b3⟩:=h E s1 l (by rw[qaZ a2];exact hm)
 obtain⟨i0,l0⟩:=qb8 (n:=n) (E:=E) (l:=t.ks) (u:=u) (by rw[hks];rfl)
 have q1:bd [bl false,i64 0] [(0,none,.c (bl true)),(1,none,.c (i64 t.n))]=some (.agg [bl true,i64 t.n]):=rfl
 have q2:bd [.sl 0 [] .full,bl false,i64 0] [(1,some 2,.c (.agg [bl true,i64 t.n]))]=some (.agg [.sl 0 [] .full,bl true,i64 t.n]):=rfl
 have q3:bd [.sl 0 [] .full,bl false,i64 0,bl false] [(0,some 3,.c (.agg [.sl 0 [] .full,bl true,i64 t.n]))]=some (.agg [.sl 0 [] .full,bl true,i64 t.n,bl false]):=rfl
 dsimp only at a1 b1
 generalize sz (x.with ⟨⟨[],⟨true,t.n⟩⟩,false⟩) u=r at b1⊢
 generalize hy:(x.with ⟨⟨[],⟨true,t.n⟩⟩,false⟩).v l=y at a1 b1
 simp only[Sc.v] at a1
 unfold s197 s197_3
 simp only[Tm.v_eq t,Sc.v,hk,qaV,qa0,qbE,qbK,qcU,qdd,qbH,qad,qaf,zab,zaa,zaj,decide_true,decide_false,qaa,cond_true,cond_false,i0,l0,q1,q2,q3,qab,a1,b1,qan,qax,qay,qaj]
 refine⟨s2,?_,b2.trans a2,b3.trans a3⟩
 cases r.2
 ·rfl
 ·simp only[cond_true,hz,qab,qaa,zay]
  cases qbd t.n
  ·rfl
  ·simp only[cond_true,hb,qab,zay]
theorem qty (hks:t.ks=[u])(hk:t.k=18)(hl:x.ids.length<=1000000)(h:SzC x u (sz x u)):PtC x t (qbI sz x t):=by
 have hr:qbI sz x t=((sz x u).1,(sz x u).2&&(((x.get t.i).any fun e=>e.ty.res.cell)&&(decide (x.top<t.i)&&qbh t.n ((x.get t.i).getD .none).ty.res.n))):=by unfold qbI;rw[hks];simp[hk]
 rw[hr]
 refine PtC.of ((h.and ((qm0 x t.i hl).and (qfA t.n ((x.get t.i).getD .none).ty.res.n))).mono fun n ⟨h,hc,hb⟩ E s l hm=>?_)
 obtain⟨s1,a1,a2,a3⟩:=h E s l hm
 obtain⟨s2,b1,b2,b3⟩:=hc E s1 l (by rw[qaZ a2];exact hm)
 obtain⟨i0,l0⟩:=qb8 (n:=n) (E:=E) (l:=t.ks) (u:=u) (by rw[hks];rfl)
 simp only[Sc.v] at a1 b1
 unfold s197 s197_4
 simp only[Tm.v_eq t,Sc.v,hk,qaV,qa0,qbE,qlP,qbK,qcU,qes,qbH,qad,qaf,qaG,zab,zaa,zaj,decide_true,decide_false,qaa,cond_true,cond_false,i0,l0,qab,a1,b1,qan,qax,qay,qaj]
 refine⟨s2,?_,b2.trans a2,b3.trans a3⟩
 generalize hcell:(x.get t.i).any _=bc
 cases(sz x u).2
 ·rfl
 ·cases bc
  ·rfl
  ·cases decide (x.top<t.i)
   ·rfl
   ·simp only[cond_true,hb,qab,zay]
theorem qn6 (hk:t.k≠7/\t.k≠8/\t.k≠9/\t.k≠10/\t.k≠11/\t.k≠13/\t.k≠18):PtC x t (qbI sz x t):=by
 obtain⟨k7,k8,k9,k10,k11,k13,k18⟩:=hk
 have hr:qbI sz x t=(0,false):=by unfold qbI;split<;>simp[k7,k8,k9,k10,k11,k13,k18]
 rw[hr]
 refine PtC.of (Ev.of fun n E s l hm=>⟨s,?_,rfl,rfl⟩)
 unfold s197
 simp only[Tm.v_eq t,Sc.v,qaV,qa0,qbK,qad,qaf,zab,zaa,k7,k8,k9,k10,k11,k13,k18,decide_false,qaa,cond_false]
end
end Go.AI.Tryz
namespace Go.AI.Tryz
def qbm (sz:Sc->Tm->Int×Bool)(x:Sc)(t:Tm):Int×Bool:=
 if qbr t then
  if t.k=1 then(t.m,qbd t.m&&qbh t.n t.m)
  else if t.k=2 then(((x.get t.i).getD .none).ty.res.n,(x.get t.i).isSome&&(!((x.get t.i).getD .none).ty.res.cell&&(!((x.get t.i).getD .none).arg&&qbv (qdy sz x) t.ks ((x.get t.i).getD .none).ty.ps)))
  else if t.k=3 then(((x.get t.i).getD .none).ty.res.n,(x.get t.i).any fun e=>e.ty.res.cell)
  else if t.k=4 then(1,((x.get t.i).any fun e=>e.ty.res.cell)&&(match t.ks with|u::_=>is2 (sz x u) ((x.get t.i).getD .none).ty.res.n|_=>false))
  else if t.k=15 then(((x.get t.i).getD .none).ty.res.n,(x.get t.i).isSome&&((x.get t.i).getD .none).arg)
  else if t.k=12 then(1,qbh t.n x.size)
  else if t.k=14 then(1,true)
  else if t.k=5\/t.k=6 then qcN sz x t
  else qbI sz x t
 else(0,false)
def _root_.Go.AI.Sc.B (x:Sc)(b:Nat):Prop:=x.ids.length+b<=1000000/\0<=x.size/\x.size+b<=1000000
theorem qa5 {t u:Tm}(h:u∈t.ks):u.size<t.size:=by
 have:=Tm.sizeL_mem h
 rw[Tm.size_ks t];omega
theorem SzC.of {x:Sc}{t:Tm}{r:Int×Bool}(h:Ev fun n=>∀E s l,qcR E s l=some qbt->∃s',s163 (qag CP n E) n (x.v l) t.v s=some (.tuple [i64 r.1,bl r.2],s')/\s'.heap=s.heap/\s'.next=s.next):SzC x t r:=by
 refine QC.of (cf:=cf163) (np:=2) (args':=fun l=>[x.v l,t.v]) (r:=fun _=> .tuple [i64 r.1,bl r.2]) (by kernel_rfl) (by kernel_rfl) (fun _=>rfl) (fun _=>by simp only[zap,qak];rfl) (fun _=>by simp only[zam,qai];rfl) (fun _=>rfl) (fun _=>rfl) (h.mono fun n h E s l hm=>?_)
 obtain⟨s',e,e1,e2⟩:=h E s l hm
 exact⟨_,s',(s163_eq _ _ _ _ _).trans e,rfl,e1,e2⟩
section
variable {sz:Sc->Tm->Int×Bool} {x:Sc} {t u w c:Tm}
theorem qtz (hf:qbr t=false):SzC x t (qbm sz x t):=by
 have hr:qbm sz x t=(0,false):=by unfold qbm;simp only[hf,zai,if_false]
 rw[hr]
 refine SzC.of ((qcK x t).mono fun n h E s l hm=>?_)
 obtain⟨s1,a1,a2,a3⟩:=h E s l hm
 simp only[Sc.v,hf] at a1
 refine⟨s1,?_,a2,a3⟩
 unfold s163
 simp only[Tm.v_eq t] at a1⊢
 simp only[Sc.v,qaV,qa0,qbE,qb7,zaa,a1,qab,qam,qaa,zal,cond_true]
theorem qxs (hf:qbr t=true)(hk:t.k=1):SzC x t (qbm sz x t):=by
 have hr:qbm sz x t=(t.m,qbd t.m&&qbh t.n t.m):=by unfold qbm;simp only[hf,if_true,hk]
 rw[hr]
 refine SzC.of (((qcK x t).and ((qgD t.m).and (qfA t.n t.m))).mono fun n ⟨h,hz,hb⟩ E s l hm=>?_)
 obtain⟨s1,a1,a2,a3⟩:=h E s l hm
 simp only[Sc.v,hf] at a1
 refine⟨s1,?_,a2,a3⟩
 unfold s163 s163_0
 simp only[Tm.v_eq t,hk] at a1⊢
 simp only[Sc.v,qaV,qa0,qbE,qb7,qbK,qcU,qdd,zaa,a1,qab,qam,qaa,zak,cond_false,qad,qaf,zab,zaj,decide_true,decide_false,cond_true,qaj,hz]
 cases qbd t.m
 ·rfl
 ·simp only[cond_true,hb,qab,zay]
theorem qvy (hf:qbr t=true)(hk:t.k=14):SzC x t (qbm sz x t):=by
 have hr:qbm sz x t=(1,true):=by unfold qbm;simp[hf,hk]
 rw[hr]
 refine SzC.of ((qcK x t).mono fun n h E s l hm=>?_)
 obtain⟨s1,a1,a2,a3⟩:=h E s l hm
 simp only[Sc.v,hf] at a1
 refine⟨s1,?_,a2,a3⟩
 unfold s163
 simp only[Tm.v_eq t,hk] at a1⊢
 simp only[Sc.v,qaV,qa0,qbE,qb7,qbK,qcU,qdd,zaa,a1,qab,qam,qaa,zak,cond_false,qad,qaf,zab,zaj,decide_true,decide_false,cond_true,qaj]
theorem qvz (hf:qbr t=true)(hk:t.k=12):SzC x t (qbm sz x t):=by
 have hr:qbm sz x t=(1,qbh t.n x.size):=by unfold qbm;simp[hf,hk]
 rw[hr]
 refine SzC.of (((qcK x t).and (qfA t.n x.size)).mono fun n ⟨h,hb⟩ E s l hm=>?_)
 obtain⟨s1,a1,a2,a3⟩:=h E s l hm
 simp only[Sc.v,hf] at a1
 refine⟨s1,?_,a2,a3⟩
 unfold s163
 simp only[Tm.v_eq t,hk] at a1⊢
 simp only[Sc.v,qaV,qa0,qbE,qb7,qhi,qbK,qcU,qdd,zaa,a1,qab,qam,qaa,zak,cond_false,qad,qaf,zab,zaj,decide_true,decide_false,cond_true,qaj,hb]
theorem qxt (hf:qbr t=true)(hk:t.k=3)(hl:x.ids.length<=1000000):SzC x t (qbm sz x t):=by
 have hr:qbm sz x t=(((x.get t.i).getD .none).ty.res.n,(x.get t.i).any fun e=>e.ty.res.cell):=by unfold qbm;simp[hf,hk]
 rw[hr]
 refine SzC.of (((qcK x t).and (qm0 x t.i hl)).mono fun n ⟨h,hc⟩ E s l hm=>?_)
 obtain⟨s1,a1,a2,a3⟩:=h E s l hm
 obtain⟨s2,b1,b2,b3⟩:=hc E s1 l (by rw[qaZ a2];exact hm)
 simp only[Sc.v,hf] at a1 b1
 refine⟨s2,?_,b2.trans a2,b3.trans a3⟩
 unfold s163
 simp only[Tm.v_eq t,hk] at a1⊢
 simp only[Sc.v,qaV,qa0,qbE,qb7,qbK,qcU,qdd,qes,zaa,a1,b1,qab,qam,qaa,zak,cond_false,qad,qaf,zab,zaj,decide_true,decide_false,cond_true,qaj,qan,qax,qay]
theorem qxu (hf:qbr t=true)(hk:t.k=4)(hks:t.ks=[u])(hl:x.ids.length<=1000000)(hu:SzC x u (sz x u)):SzC x t (qbm sz x t):=by
 have hr:qbm sz x t=(1,((x.get t.i).any fun e=>e.ty.res.cell)&&is2 (sz x u) ((x.get t.i).getD .none).ty.res.n):=by unfold qbm;simp[hf,hk,hks]
 rw[hr]
 refine SzC.of (((qcK x t).and ((qm0 x t.i hl).and (qhY ((x.get t.i).getD .none).ty.res.n hu))).mono fun n ⟨h,hc,hi⟩ E s l hm=>?_)
 obtain⟨s1,a1,a2,a3⟩:=h E s l hm
 obtain⟨s2,b1,b2,b3⟩:=hc E s1 l (by rw[qaZ a2];exact hm)
 obtain⟨s3,c1,c2,c3⟩:=hi E s2 l (by rw[qaZ b2,qaZ a2];exact hm)
 obtain⟨i0,l0⟩:=qb8 (n:=n) (E:=E) (l:=t.ks) (u:=u) (by rw[hks];rfl)
 simp only[Sc.v,hf] at a1 b1 c1
 unfold s163 s163_2
 simp only[Tm.v_eq t,hk] at a1⊢
 simp only[Sc.v,qaV,qa0,qbE,qb7,qbK,qcU,qdd,qes,qbH,zaa,a1,b1,qab,qam,qaa,zak,cond_false,qad,qaf,zab,zaj,decide_true,decide_false,cond_true,qaj,qan,qax,qay,i0,l0,c1]
 cases(x.get t.i).any fun e=>e.ty.res.cell
 ·exact⟨s2,rfl,b2.trans a2,b3.trans a3⟩
 ·exact⟨s3,rfl,c2.trans (b2.trans a2),c3.trans (b3.trans a3)⟩
theorem Se.cells4 (y:Se):zA.cells (some 4) y.v=some [.p (.sl y.ty.ps.length (qaQ Bs.cells y.ty.ps)),bl y.ty.res.cell,i64 y.ty.res.n,bl y.arg]:=rfl
theorem qvA (hf:qbr t=true)(hk:t.k=15)(hl:x.ids.length<=1000000):SzC x t (qbm sz x t):=by
 have hr:qbm sz x t=(((x.get t.i).getD .none).ty.res.n,(x.get t.i).isSome&&((x.get t.i).getD .none).arg):=by unfold qbm;simp[hf,hk]
 rw[hr]
 refine SzC.of (((qcK x t).and (qxq x t.i hl)).mono fun n ⟨h,hc⟩ E s l hm=>?_)
 obtain⟨s1,a1,a2,a3⟩:=h E s l hm
 obtain⟨s2,b1,b2,b3⟩:=hc E s1 l (by rw[qaZ a2];exact hm)
 simp only[Sc.v,hf] at a1 b1
 refine⟨s2,?_,b2.trans a2,b3.trans a3⟩
 generalize hy:(x.get t.i).getD .none=y at b1
 generalize hq:(x.get t.i).isSome=q at b1
 unfold s163 s163_3
 simp only[Tm.v_eq t,hk] at a1⊢
 simp only[Sc.v,qaV,qa0,qbE,qb7,qhi,qjn,qbK,qcU,qdd,qes,zaa,a1,b1,qab,qam,qaa,zak,cond_false,qad,qaf,zab,zaj,decide_true,decide_false,cond_true,qaj,qan,qax,qay,Se.cells4,qdc]
 cases q<;>rfl
theorem qxv (hf:qbr t=true)(hk:t.k=2)(hl:x.ids.length<=1000000)(hlen:t.ks.length<=maxLen)(hu:∀p∈t.ks.zip ((x.get t.i).getD .none).ty.ps,QC 59 (fun l=>[x.v l,p.1.v,p.2.v]) (fun _=>bl (qdy sz x p.1 p.2))):SzC x t (qbm sz x t):=by
 have hr:qbm sz x t=(((x.get t.i).getD .none).ty.res.n,(x.get t.i).isSome&&(!((x.get t.i).getD .none).ty.res.cell&&(!((x.get t.i).getD .none).arg&&qbv (qdy sz x) t.ks ((x.get t.i).getD .none).ty.ps))):=by unfold qbm;simp[hf,hk]
 rw[hr]
 refine SzC.of (((qcK x t).and ((qxq x t.i hl).and (qpG x t.ks ((x.get t.i).getD .none).ty.ps (qdy sz x) hlen hu))).mono fun n ⟨h,hc,ha⟩ E s l hm=>?_)
 obtain⟨s1,a1,a2,a3⟩:=h E s l hm
 obtain⟨s2,b1,b2,b3⟩:=hc E s1 l (by rw[qaZ a2];exact hm)
 obtain⟨s3,c1,c2,c3⟩:=ha E s2 l (by rw[qaZ b2,qaZ a2];exact hm)
 simp only[Sc.v,hf] at a1 b1 c1
 generalize hy:(x.get t.i).getD .none=y at b1 c1
 generalize hq:(x.get t.i).isSome=q at b1
 generalize qbv (qdy sz x) t.ks y.ty.ps=ao at c1
 suffices ∃s',s163 (qag CP n E) n (x.v l) t.v s=some (.tuple [i64 y.ty.res.n,bl (q&&(!y.ty.res.cell&&(!y.arg&&ao)))],s')/\(s'=s2\/s'=s3) by
  obtain⟨s',e,he⟩:=this
  rcases he with rfl|rfl
  ·exact⟨_,e,b2.trans a2,b3.trans a3⟩
  ·exact⟨_,e,c2.trans (b2.trans a2),c3.trans (b3.trans a3)⟩
 unfold s163 s163_1
 simp only[Tm.v_eq t,hk] at a1⊢
 simp only[Sc.v,qaV,qa0,qbE,qb7,qbW,qlP,qhi,qjn,qbK,qcU,qdd,qes,qbH,zaa,a1,b1,qab,qam,qaa,zak,cond_false,qad,qaf,zab,zaj,decide_true,decide_false,cond_true,qaj,qan,qax,qay,Se.cells4,qdc,c1]
 cases q
 ·exact⟨s2,rfl,.inl rfl⟩
 ·cases y.ty.res.cell
  ·cases y.arg
   ·exact⟨s3,rfl,.inr rfl⟩
   ·exact⟨s2,rfl,.inl rfl⟩
  ·exact⟨s2,rfl,.inl rfl⟩
theorem qm3 (hf:qbr t=true)(hk:t.k=5\/t.k=6)(h:QC 196 (fun l=>[x.v l,t.v]) (fun _=> .tuple [i64 (qcN sz x t).1,bl (qcN sz x t).2])):SzC x t (qbm sz x t):=by
 have hr:qbm sz x t=qcN sz x t:=by unfold qbm;rcases hk with hk|hk<;>simp[hf,hk]
 rw[hr]
 generalize qcN sz x t=r at h⊢
 refine SzC.of (((qcK x t).and h).mono fun n ⟨h,hc⟩ E s l hm=>?_)
 obtain⟨s1,a1,a2,a3⟩:=h E s l hm
 obtain⟨s2,b1,b2,b3⟩:=hc E s1 l (by rw[qaZ a2];exact hm)
 simp only[Sc.v,hf] at a1 b1
 refine⟨s2,?_,b2.trans a2,b3.trans a3⟩
 unfold s163 s163_4
 rcases hk with hk|hk<;>
 ·simp only[Tm.v_eq t,hk] at a1 b1⊢
  simp only[Sc.v,qaV,qa0,qbE,qb7,qbK,zaa,a1,b1,qab,qam,qaa,zak,cond_false,qad,qaf,zab,zaj,decide_true,decide_false,cond_true,qaj,qan,qax,qay]
theorem qpH (hf:qbr t=true)(hk:t.k≠1/\t.k≠2/\t.k≠3/\t.k≠4/\t.k≠15/\t.k≠12/\t.k≠14/\t.k≠5/\t.k≠6)(h:PtC x t (qbI sz x t)):SzC x t (qbm sz x t):=by
 obtain⟨k1,k2,k3,k4,k15,k12,k14,k5,k6⟩:=hk
 have hr:qbm sz x t=qbI sz x t:=by unfold qbm;simp[hf,k1,k2,k3,k4,k15,k12,k14,k5,k6]
 rw[hr]
 generalize qbI sz x t=r at h⊢
 refine SzC.of (((qcK x t).and h).mono fun n ⟨h,hc⟩ E s l hm=>?_)
 obtain⟨s1,a1,a2,a3⟩:=h E s l hm
 obtain⟨s2,b1,b2,b3⟩:=hc E s1 l (by rw[qaZ a2];exact hm)
 simp only[Sc.v,hf] at a1 b1
 refine⟨s2,?_,b2.trans a2,b3.trans a3⟩
 unfold s163 s163_4
 simp only[Tm.v_eq t] at a1 b1⊢
 simp only[Sc.v,qaV,qa0,qbE,qb7,qbK,zaa,a1,b1,qab,qam,qaa,zak,cond_false,qad,qaf,zab,k1,k2,k3,k4,k15,k12,k14,k5,k6,decide_false,qaj,qan,qax,qay]
end
theorem qpI {t:Tm}(h:qbr t=true):∀f,qct formL t.k=some f->f.k<0\/f.k=t.ks.length:=by
 intro f hf
 unfold qbr at h
 rw[hf] at h
 simp only[zag,za5,decide_eq_true_eq,zaf] at h
 exact h.2
theorem ks1 {t:Tm}(h:t.ks.length=1):∃u,t.ks=[u]:=by
 match hk:t.ks,h with
 |[u],_=>exact⟨u,rfl⟩
theorem ks2 {t:Tm}(h:t.ks.length=2):∃u w,t.ks=[u,w]:=by
 match hk:t.ks,h with
 |[u,w],_=>exact⟨u,w,rfl⟩
theorem ks3 {t:Tm}(h:t.ks.length=3):∃c u w,t.ks=[c,u,w]:=by
 match hk:t.ks,h with
 |[c,u,w],_=>exact⟨c,u,w,rfl⟩
theorem ksk {t:Tm}(h:qbr t=true){f:Form}(hf:qct formL t.k=some f){m:Nat}(hm:f.k=m):t.ks.length=m:=by
 rcases qpI h f hf with h|h<;>omega
theorem qhn {x:Sc}{y:Se}{a b:Nat}(h:x.B b)(hab:a<b):(x.with y).B a:=by
 obtain⟨h1,h2,h3⟩:=h
 refine⟨?_,h2,?_⟩
 ·simp only[Sc.with,zaw,zar,zaB];omega
 ·simp only[Sc.with];omega
theorem qm4 {x:Sc}{a b:Nat}(h:x.B b)(hab:a<b):x.B a:=by
 obtain⟨h1,h2,h3⟩:=h
 exact⟨by omega,h2,by omega⟩
theorem qtA {sz:Sc->Tm->Int×Bool}{x:Sc}{t:Tm}(hB:x.B t.size)(H:∀(u:Tm) (y:Sc),u.size<t.size->y.B u.size->SzC y u (sz y u)):SzC x t (qbm sz x t):=by
 have hl:x.ids.length<=1000000:=by have:=hB.1;omega
 have hlen:t.ks.length<=maxLen:=by
  have:=Tm.len_le_size t.ks
  have:=hB.1
  rw[Tm.size_ks t] at this
  rw[qbM];omega
 have hK:∀u∈t.ks,SzC x u (sz x u):=fun u hu=>H u x (qa5 hu) (qm4 hB (qa5 hu))
 cases hf:qbr t with
 |false=>exact qtz hf
 |true=>
  by_cases k1:t.k=1
  ·exact qxs hf k1
  by_cases k2:t.k=2
  ·refine qxv hf k2 hl hlen fun p hp=>?_
   have hm:p.1∈t.ks:=(List.of_mem_zip (a:=p.1) (b:=p.2) hp).1
   refine qm2 p.2 hl (hK _ hm) fun u w r e=>?_
   have hu:u.size<p.1.size:=qa5 (by rw[e];exact zau ..)
   have hw:w.size<p.1.size:=qa5 (by rw[e];exact zax _ (zau ..))
   have hp1:=qa5 hm
   exact⟨H u x (by omega) (qm4 hB (by omega)),H w _ (by omega) (qhn hB (by omega))⟩
  by_cases k3:t.k=3
  ·exact qxt hf k3 hl
  by_cases k4:t.k=4
  ·obtain⟨u,hu⟩:=ks1 (ksk hf (f:=⟨false,false,true,1⟩) (m:=1) (by rw[k4];rfl) rfl)
   exact qxu hf k4 hu hl (hK u (by rw[hu];exact zau ..))
  by_cases k15:t.k=15
  ·exact qvA hf k15 hl
  by_cases k12:t.k=12
  ·exact qvz hf k12
  by_cases k14:t.k=14
  ·exact qvy hf k14
  by_cases k5:t.k=5
  ·obtain⟨u,w,hu⟩:=ks2 (ksk hf (f:=⟨true,true,false,2⟩) (m:=2) (by rw[k5];rfl) rfl)
   exact qm3 hf (.inl k5) (qrE hu k5 (hK u (by simp[hu])) (hK w (by simp[hu])))
  by_cases k6:t.k=6
  ·obtain⟨u,hu⟩:=ks1 (ksk hf (f:=⟨true,false,false,1⟩) (m:=1) (by rw[k6];rfl) rfl)
   exact qm3 hf (.inr k6) (qrD hu k6 (hK u (by simp[hu])))
  refine qpH hf ⟨k1,k2,k3,k4,k15,k12,k14,k5,k6⟩ ?_
  by_cases k7:t.k=7
  ·obtain⟨u,w,hu⟩:=ks2 (ksk hf (f:=⟨false,false,false,2⟩) (m:=2) (by rw[k7];rfl) rfl)
   exact qvv hu k7 (hK u (by simp[hu])) (hK w (by simp[hu]))
  by_cases k8:t.k=8
  ·obtain⟨c,u,w,hu⟩:=ks3 (ksk hf (f:=⟨false,false,false,3⟩) (m:=3) (by rw[k8];rfl) rfl)
   exact qvx hu k8 (hK u (by simp[hu])) (hK w (by simp[hu])) (hK c (by simp[hu]))
  by_cases k9:t.k=9
  ·obtain⟨u,w,hu⟩:=ks2 (ksk hf (f:=⟨false,false,false,2⟩) (m:=2) (by rw[k9];rfl) rfl)
   exact qvw hu k9 (hK u (by simp[hu])) (hK w (by simp[hu]))
  by_cases k10:t.k=10
  ·obtain⟨u,hu⟩:=ks1 (ksk hf (f:=⟨true,true,false,1⟩) (m:=1) (by rw[k10];rfl) rfl)
   have hlt:u.size<t.size:=qa5 (by simp[hu])
   exact qtx hu k10 hl (H u _ hlt (qhn hB hlt))
  by_cases k11:t.k=11
  ·obtain⟨u,w,hu⟩:=ks2 (ksk hf (f:=⟨false,false,false,2⟩) (m:=2) (by rw[k11];rfl) rfl)
   have hlt:u.size<t.size:=qa5 (by simp[hu])
   obtain⟨b1,b2,b3⟩:=hB
   exact qtw hu k11 b2 (by omega) (H u _ hlt ⟨by show x.ids.length+_<=_;omega,by show 0<=x.size+1;omega,by show x.size+1+_<=_;omega⟩) (hK w (by simp[hu]))
  by_cases k13:t.k=13
  ·obtain⟨u,w,hu⟩:=ks2 (ksk hf (f:=⟨false,false,false,2⟩) (m:=2) (by rw[k13];rfl) rfl)
   exact qtv hu k13 (hK u (by simp[hu])) (hK w (by simp[hu]))
  by_cases k18:t.k=18
  ·obtain⟨u,hu⟩:=ks1 (ksk hf (f:=⟨true,false,true,1⟩) (m:=1) (by rw[k18];rfl) rfl)
   exact qty hu k18 hl (hK u (by simp[hu]))
  exact qn6 ⟨k7,k8,k9,k10,k11,k13,k18⟩
def szD:Nat->Sc->Tm->Int×Bool
 |0,_,_=>(0,false)
 |d+1,x,t=>qbm (szD d) x t
theorem qvB:∀(d:Nat) (x:Sc) (t:Tm),t.size<=d->x.B t.size->SzC x t (szD d x t)
 |0,x,t,h,_=>by have:=Tm.size_pos t;omega
 |d+1,x,t,h,hB=>qtA hB fun u y hu hy=>qvB d y u (by omega) hy
theorem qgj {f g:Tm->Bs->Bool}:∀{ks:List Tm} {ps:List Bs},(∀u∈ks,∀b,f u b=g u b)->qbv f ks ps=qbv g ks ps
 |[],[],_=>rfl
 |[],_::_,_=>rfl
 |_::_,[],_=>rfl
 |u::ks,b::ps,h=>by
  simp only[qbv,h u (zau ..),qgj (ks:=ks) (ps:=ps) fun v hv=>h v (zax _ hv)]
theorem qn7 {sz sz':Sc->Tm->Int×Bool}{x:Sc}{t:Tm}(h:∀u y,u.size<=t.size->sz y u=sz' y u)(b:Bs):qdy sz x t b=qdy sz' x t b:=by
 unfold qdy
 rw[h t x (zan _)]
 match hks:t.ks with
 |[]=>rfl
 |[_]=>rfl
 |u::w::r=>
  have hu:u.size<t.size:=qa5 (by simp[hks])
  have hw:w.size<t.size:=qa5 (by simp[hks])
  simp only[h u _ (Nat.le_of_lt hu),h w _ (Nat.le_of_lt hw)]
theorem qho {sz sz':Sc->Tm->Int×Bool}{x:Sc}{t:Tm}(h:∀u y,u.size<t.size->sz y u=sz' y u):qbm sz x t=qbm sz' x t:=by
 have hK:∀u∈t.ks,∀y,sz y u=sz' y u:=fun u hu y=>h u y (qa5 hu)
 have h2:qbv (qdy sz x) t.ks ((x.get t.i).getD .none).ty.ps=qbv (qdy sz' x) t.ks ((x.get t.i).getD .none).ty.ps:=
  qgj fun u hu b=>qn7 (fun v y hv=>h v y (by have:=qa5 hu;omega)) b
 have h4:(match t.ks with|u::_=>is2 (sz x u) ((x.get t.i).getD .none).ty.res.n|_=>false)=(match t.ks with|u::_=>is2 (sz' x u) ((x.get t.i).getD .none).ty.res.n|_=>false):=by
  match hks:t.ks with
  |[]=>rfl
  |u::r=>simp only[hK u (by simp[hks])]
 have hr:qcN sz x t=qcN sz' x t:=by
  unfold qcN
  match hks:t.ks with
  |[]=>rfl
  |[u]=>simp only[hK u (by simp[hks])]
  |u::w::r=>simp only[hK u (by simp[hks]),hK w (by simp[hks])]
 have hp:qbI sz x t=qbI sz' x t:=by
  unfold qbI
  match hks:t.ks with
  |[]=>rfl
  |[u]=>simp only[hK u (by simp[hks])]
  |[u,w]=>simp only[hK u (by simp[hks]),hK w (by simp[hks])]
  |[c,u,w]=>simp only[hK u (by simp[hks]),hK w (by simp[hks]),hK c (by simp[hks])]
  |_::_::_::_::_=>rfl
 unfold qbm
 rw[h2,h4,hr,hp]
def szF (x:Sc)(t:Tm):Int×Bool:=szD t.size x t
theorem qkT:∀(d:Nat) (x:Sc) (t:Tm),t.size<=d->szD d x t=szF x t
 |0,x,t,h=>by have:=Tm.size_pos t;omega
 |d+1,x,t,h=>by
  have:∃e,t.size=e+1:=⟨t.size-1,by have:=Tm.size_pos t;omega⟩
  obtain⟨e,he⟩:=this
  show qbm (szD d) x t=szD t.size x t
  rw[he]
  show qbm (szD d) x t=qbm (szD e) x t
  refine qho fun u y hu=>?_
  rw[qkT d y u (by omega),szF]
  rcases zbi e d with h1|h1
  ·rw[qkT e y u (by omega),szF]
  ·have:e=d:=by omega
   rw[this,qkT d y u (by omega),szF]
theorem qcz (x:Sc)(t:Tm):szF x t=qbm szF x t:=by
 rw[<-qkT (t.size+1) x t (by omega)]
 exact qho fun u y hu=>qkT _ _ _ (by omega)
theorem qtB (x:Sc)(t:Tm)(hB:x.B t.size):SzC x t (szF x t):=qvB t.size x t (zan _) hB
theorem qvC (x:Sc)(t:Tm)(b:Bs)(hB:x.B t.size):QC 59 (fun l=>[x.v l,t.v,b.v]) (fun _=>bl (qdy szF x t b)):=by
 have hl:x.ids.length<=1000000:=by have:=hB.1;omega
 refine qm2 b hl (qtB x t hB) fun u w r e=>?_
 have hu:u.size<t.size:=qa5 (by simp[e])
 have hw:w.size<t.size:=qa5 (by simp[e])
 exact⟨qtB x u (qm4 hB hu),qtB _ w (qhn hB hw)⟩
end Go.AI.Tryz
namespace Go.AI
theorem qlW (v:zA):qcj (qcj v)=qcj v:=by cases v<;>rfl
theorem qhp (v:zA):qde (qde v)=qde v:=by
 cases v<;>try rfl
 case agg cs=>
  simp only[qde,List.map_map,zA.agg.injEq]
  exact List.map_congr_left fun v _=>qlW v
theorem qn8 (v:zA):qaD (qaD v)=qaD v:=by
 cases v<;>try rfl
 case agg cs=>exact qhp (.agg cs)
 case tuple vs=>
  simp only[qaD,List.map_map,zA.tuple.injEq]
  exact List.map_congr_left fun v _=>qhp v
theorem qkU (v:zA):qaY (qcj v)=qaY v:=by cases v<;>rfl
theorem qhZ (v:zA):qbF (qaD v)=qbF v:=by
 cases v<;>try rfl
 case agg cs=>
  simp only[qaD,qde,qbF,List.all_map]
  congr 1
  funext v
  exact qkU v
theorem qfC {CP:Nat->Option CF}{f:Nat}{cf:CF}(hcf:CP f=some cf)(hk:cf.keepA=false)(n:Nat)(E:qaR)(args:List zA)(s:ASt):cl (qag CP n E) f args s=cl (qag CP n E) f (args.map qaD) s:=by
 rw[qb4,qb4]
 cases n with
 |zero=>rfl
 |succ n=>
  have h1:(args.map qaD).map qaD=args.map qaD:=by
   rw[List.map_map]
   exact List.map_congr_left fun v _=>qn8 v
  have h2:(args.map qaD).all qbF=args.all qbF:=by
   rw[List.all_map]
   congr 1
   funext v
   exact qhZ v
  rw[qdP]
  unfold qcp
  rw[hcf,zaa,zaa,hk,zaZ,h1,h2]
  rfl
theorem qhq (E:qaR)(s:ASt)(es:List (zP×zP)):qcR E (qcs s es) s.next=some es:=by
 unfold qcR qcs
 simp only[qas,qaE rfl,cond_true]
theorem Ty.v_cells3 (t:Ty):zA.cells (some 3) t.v=some [.p (.sl t.ps.length (qaQ Bs.cells t.ps)),bl t.res.cell,i64 t.res.n]:=rfl
end Go.AI
namespace Go.AI.Tryz
def qaB (a:Ar):Sc:=⟨a.ids.map fun t=>⟨t,false⟩,.ofNat a.ids.length,0⟩
def qbN (a:Ar)(t:Tm):Int:=if qbX a≠0 then qbX a else if 600<t.size then 5 else if qdy szF (qaB a) t a.root then 0 else 4
theorem qtC (a:Ar)(t:Tm)(oa:a.Ok)(ok:t.Ok)(h1:a.ids.length<=100000)(hs:t.size<=100000):PC CP 31 [a.v,t.v] (i64 (qbN a t)):=by
 have hB:(qaB a).B t.size:=⟨by simp only[qaB,zaZ];omega,by simp only[qaB];omega,by simp only[qaB];omega⟩
 refine PC.of (cf:=cf31) (np:=2) (args':=[a.v,t.v]) (r:=i64 (qbN a t)) (by kernel_rfl) (by kernel_rfl) rfl (by simp only[zap,qak];rfl) (by simp only[zam,qai];rfl) rfl (fun _=>rfl)
  (((qkR a oa).and ((qrA t ok (by omega)).and (forms_c.and ((qvC (qaB a) t a.root hB).and (Ev.ge (a.ids.length+1)))))).mono fun n ⟨ha,hc,hf,hi,hn⟩ E s _ _=>?_)
 rw[s31_eq]
 unfold s31 qbN
 have hld2:∀x y z w:zA,ldL [x,y,z,w] 0 (some 4)=some (.agg [x,y,z,w]):=fun _ _ _ _=>rfl
 have hav:zA.cells (some 4) a.v=some [.p (.sl a.ids.length (qaQ Ty.cells a.ids)),bl a.root.cell,i64 a.root.n,bl a.jumps]:=rfl
 have hag:(zA.agg [.p (.sl a.ids.length (qaQ Ty.cells a.ids)),bl a.root.cell,i64 a.root.n,bl a.jumps])=a.v:=rfl
 have htg:(zA.agg [u8 t.k,i64 t.n,i64 t.m,i64 t.i,.p (.sl t.ks.length (Tm.cellsL t.ks))])=t.v:=(Tm.v_eq t).symm
 have htv:zA.cells (some 5) t.v=some [u8 t.k,i64 t.n,i64 t.m,i64 t.i,.p (.sl t.ks.length (Tm.cellsL t.ks))]:=by rw[Tm.v_eq];rfl
 simp only[hav,htv,zaa,qbE,qb7,hag,htg,ha,qab,qad,qa1,zab,qaa]
 by_cases h0:qbX a=0
 ·simp only[h0,decide_true,zak,cond_false,hc,qab,qad,qaG,zab,zaa,qaa,ne_eq,not_true_eq_false,if_false]
  obtain⟨c1,c2,c3⟩:=t.cnt2_ok
  by_cases h6:600<t.size
  ·have:(600:Int)<Int.ofNat t.cnt2:=by have:=c3 h6;simp only[zaf];omega
   simp only[this,decide_true,cond_true,h6,if_true]
   exact⟨s,rfl⟩
  ·have:¬(600:Int)<Int.ofNat t.cnt2:=by simp only[zaf];omega
   simp only[this,decide_false,cond_false,h6,if_false,qbW,zaa,qbq,hf,qab]
   have hbd:bd [.sl 0 [] .full,i64 0,i64 0,.p .nilMap] [(1,none,.c (i64 (.ofNat a.ids.length))),(3,none,.c (.map s.next))]=some (.agg [.sl 0 [] .full,i64 (.ofNat a.ids.length),i64 0,.map s.next]):=rfl
   simp only[hbd,zaa,qaV,qdc]
   unfold s31_0
   generalize hF:(fun(h29:zA->Nat->List zA->List zA->List zA->List zA->ASt->Res) (x22:zA) (g23:Nat) (c24 c25 c26 c27:List zA) (s28:ASt)=>_)=F
   generalize hs0:qcs s qbt=s0
   let ids:List Se:=a.ids.map fun t=>⟨t,false⟩
   let f:Nat->List zP:=fun j=>qaQ Se.cells (ids.take j)
   have hidl:ids.length=a.ids.length:=by simp only[ids,zaZ]
   have key:∀k (j g:Nat) (c:List zA),j<=a.ids.length->a.ids.length-j<k->∃s',lp (fun _ _ _ _ _ _ _=>none) F k (i64 (.ofNat j)) g [.p (.sl a.ids.length (qaQ Ty.cells a.ids)),bl a.root.cell,i64 a.root.n,bl a.jumps] [u8 t.k,i64 t.n,i64 t.m,i64 t.i,.p (.sl t.ks.length (Tm.cellsL t.ks))]
     [qb0 f s0.ntok j,i64 (.ofNat a.ids.length),i64 0,.map s.next] c (qc6 s0 4 j)=some (i64 (if qdy szF (qaB a) t a.root then 0 else 4),s'):=by
    intro k
    induction k with
    |zero=>intro j g c _ h;omega
    |succ k ih=>
     intro j g c hj hk
     rw[qa6]
     generalize lp _ _ k=L at ih⊢
     subst hF
     rcases zbi j a.ids.length with h|h
     ·have hkj:a.ids[j]? =some a.ids[j]:=zah h
      have hld:∀s,ldH (qag CP n E) s (.elem (qaQ Ty.cells a.ids) (j*3)) (some 3)=some a.ids[j].v:=fun s=>qdr (c:=Ty.cells) (sz:=3) (fun _=>rfl) _ s hkj
      have hij:j<ids.length:=by rw[hidl];exact h
      have hidj:ids[j]=⟨a.ids[j],false⟩:=by simp only[ids,List.getElem_map]
      have hb3:ldL [.p (.sl a.ids[j].ps.length (qaQ Bs.cells a.ids[j].ps)),bl a.ids[j].res.cell,i64 a.ids[j].res.n] 0 (some 3)=some a.ids[j].v:=rfl
      have hbd:bd [.sl 0 [] .full,bl false,i64 0,bl false] [(0,some 3,.c a.ids[j].v)]=some (Se.v ⟨a.ids[j],false⟩):=rfl
      have hms:ms 1 [.sl 0 [],.bool false,.int .i64 0,.bool false] [(0,some 4,.c (Se.v ⟨a.ids[j],false⟩))]=some (.sl 1 (Se.cells ⟨a.ids[j],false⟩) .full):=rfl
      have hap:=qeV (qag CP n E) (sz:=4) (b:=48) (f:=f) (y:=.sl 1 (Se.cells ⟨a.ids[j],false⟩) .full) s0 j rfl rfl (by omega) (by
       have:=qbQ (c:=Se.cells) hij
       rw[hidj] at this
       exact this)
      have hcv:zA.cells none (qb0 f s0.ntok (j+1))=some [qb0 f s0.ntok (j+1)]:=rfl
      simp only[qad,qao,qaw,zab,zaa,of_lt.2 h,decide_true,qaa,cond_true,qbR h,qab,hld,Ty.v_cells3,qlO,za8,qbW,hb3,hbd,hms,hap,hcv,qgC,qaN (show j<9223372036854775807 by omega)]
      simp only[cnd]
      exact ih (j+1) (g+1) _ (by omega) (by omega)
     ·have:j=a.ids.length:=by omega
      subst this
      have h3:¬(Int.ofNat a.ids.length<Int.ofNat a.ids.length):=fun h=>zaX _ (of_lt.1 h)
      have hm:qcR E (qc6 s0 4 a.ids.length) s.next=some qbt:=by
       have:(qc6 s0 4 a.ids.length).heap=s0.heap:=by
        cases a.ids.length<;>rfl
       rw[qaZ this,<-hs0]
       exact qhq E s qbt
      obtain⟨s',e,_,_⟩:=hi E _ _ hm
      have her:[zA.agg [qb0 f s0.ntok a.ids.length,i64 (.ofNat a.ids.length),i64 0,.map s.next],t.v,a.root.v].map qaD=[(qaB a).v s.next,t.v,a.root.v]:=by
       have h1:qcj (qb0 f s0.ntok a.ids.length)=.p (.sl a.ids.length (f a.ids.length)):=qcV f _ _ rfl
       have h2:f a.ids.length=qaQ Se.cells (qaB a).ids:=by
        show qaQ Se.cells (ids.take a.ids.length)=qaQ Se.cells ids
        rw[<-hidl,List.take_length]
       have h3:(qaB a).ids.length=a.ids.length:=by simp only[qaB,zaZ]
       simp only[zam,qai,zbn]
       unfold Sc.v
       rw[h3,<-h2,<-h1]
       rfl
      have hcl:=qfC (CP:=CP) (f:=59) (cf:=cf59) (by kernel_rfl) (by kernel_rfl) n E [zA.agg [qb0 f s0.ntok a.ids.length,i64 (.ofNat a.ids.length),i64 0,.map s.next],t.v,a.root.v] (qc6 s0 4 a.ids.length)
      rw[her] at hcl
      have hroot:ldL [.p (.sl a.ids.length (qaQ Ty.cells a.ids)),bl a.root.cell,i64 a.root.n,bl a.jumps] 1 (some 2)=some a.root.v:=rfl
      simp only[qad,qao,zab,zaa,h3,decide_false,qaa,cond_false,qbE,qb7,hroot,htg,hcl,e,qab,qam]
      cases qdy szF (qaB a) t a.root
      ·exact⟨s',rfl⟩
      ·exact⟨s',rfl⟩
   obtain⟨s',e⟩:=key n 0 0 [] (zaY _) (by omega)
   exact⟨s',e⟩
 ·simp only[h0,decide_false,zal,cond_true,ne_eq,not_false_eq_true,if_true]
  exact⟨s,rfl⟩
end Go.AI.Tryz
namespace Go.AI
def Tm.c (t:Tm):List zA:=[u8 t.k,i64 t.n,i64 t.m,i64 t.i,.p (.sl t.ks.length (Tm.cellsL t.ks))]
theorem Tm.k_mk (k n m i:Int)(ks:List Tm):(Tm.mk k n m i ks).k=k:=rfl
theorem Tm.n_mk (k n m i:Int)(ks:List Tm):(Tm.mk k n m i ks).n=n:=rfl
theorem Tm.m_mk (k n m i:Int)(ks:List Tm):(Tm.mk k n m i ks).m=m:=rfl
theorem Tm.i_mk (k n m i:Int)(ks:List Tm):(Tm.mk k n m i ks).i=i:=rfl
theorem Tm.ks_mk (k n m i:Int)(ks:List Tm):(Tm.mk k n m i ks).ks=ks:=rfl
abbrev kv (l:List Tm):zA:=.p (.sl l.length (Tm.cellsL l))
def Tm.z:Tm:=.mk 0 0 0 0 []
section
variable (t:Tm)
theorem qah:zA.cells (some 5) t.v=some t.c:=by rw[Tm.v_eq];rfl
theorem qaU:ldL t.c 0 (some 5)=some t.v:=by rw[Tm.v_eq];rfl
theorem qbc:ldL t.c 0 none=some (u8 t.k):=rfl
theorem qb1:ldL t.c 1 none=some (i64 t.n):=rfl
theorem qef:ldL t.c 2 none=some (i64 t.m):=rfl
theorem qcL:ldL t.c 3 none=some (i64 t.i):=rfl
theorem qbj:ldL t.c 4 none=some (kv t.ks):=rfl
theorem qav (a b c d e:zA):over [a,b,c,d,e] 0 t.c=some t.c:=rfl
theorem qpJ (u:Tm):over u.c 0 t.c=some t.c:=rfl
theorem qvD:t.c.all qaY=true:=rfl
end
structure Vw where
 t:Tm
 sz:List Int
 ar:Int
def qcZ (n:Int):List zP:=[.int .i64 n]
abbrev iv (l:List Int):zA:=.p (.sl l.length (qaQ qcZ l))
def Vw.v (x:Vw):zA:=.agg [u8 x.t.k,i64 x.t.n,i64 x.t.m,i64 x.t.i,kv x.t.ks,iv x.sz,i64 x.ar]
def Vw.c (x:Vw):List zA:=[u8 x.t.k,i64 x.t.n,i64 x.t.m,i64 x.t.i,kv x.t.ks,iv x.sz,i64 x.ar]
section
variable (x:Vw)
theorem qaH:zA.cells (some 7) x.v=some x.c:=rfl
theorem qch:ldL x.c 0 (some 7)=some x.v:=rfl
theorem qlX:ldL x.c 0 none=some (u8 x.t.k):=rfl
theorem qkV:ldL x.c 1 none=some (i64 x.t.n):=rfl
theorem qqS:ldL x.c 2 none=some (i64 x.t.m):=rfl
theorem vld3:ldL x.c 3 none=some (i64 x.t.i):=rfl
theorem qco:ldL x.c 4 none=some (kv x.t.ks):=rfl
theorem quK:ldL x.c 5 none=some (iv x.sz):=rfl
theorem qpK:ldL x.c 6 none=some (i64 x.ar):=rfl
theorem qju (a b c d e f g:zA):over [a,b,c,d,e,f,g] 0 x.c=some x.c:=rfl
theorem qds:x.c.all qaY=true:=rfl
theorem qb9:qbF x.v=true:=rfl
theorem qca:qaD x.v=x.v:=rfl
end
theorem qrF (l:List Tm):zA.cells none (kv l)=some [kv l]:=rfl
theorem qbw (f l o:Nat)(r:List zA):mf f [] (.ptr l o::r)=some (.func f [] (.ptr l o::r)):=by
 have h:∀xs:List zA,(xs.map Arg.c).map (Arg.ev .nil)=xs:=by
  intro xs
  induction xs with
  |nil=>rfl
  |cons x xs ih=>simp only[zam,ih];rfl
 unfold mf pu
 simp only[qaF,h]
 rfl
theorem qh0 (CP:Nat->Option CF){n:Nat}(hn:1<=n)(E:qaR)(f:Nat)(a b args:List zA)(s:ASt):clv (qag CP n E) (.func f a b) args s=cl (qag CP n E) f (a++(args++b)) s:=by
 obtain⟨m,rfl⟩:∃m,n=m+1:=⟨n-1,by omega⟩
 rw[qhd,qnX,qb4]
theorem qgk (CP:Nat->Option CF){n:Nat}(hn:1<=n)(E:qaR)(f:Nat)(args:List zA)(s:ASt):clv (qag CP n E) (.p (.func f [] [])) args s=cl (qag CP n E) f args s:=by
 obtain⟨m,rfl⟩:∃m,n=m+1:=⟨n-1,by omega⟩
 rw[qhd,qfe,qb4]
 simp only[zbn,zbg,zaJ]
@[simp] theorem qbD (off l o:Nat) (k:zA->Res):faK off (.ptr l o) k=k (.ptr l (o+off)):=rfl
@[simp] theorem qa3 (s:ASt) (o:zH) (k:Nat->ASt->Res):qdX s o k=k s.next (qal s o):=rfl
theorem ldP {e:Env}{s:ASt}{l:Nat}{cs:List zA}(h:qar e.E s l=some cs)(o:Nat)(n:Option Nat):ldH e s (.ptr l o) n=ldL cs o n:=by
 unfold ldH ldL
 simp only[loadFrom,h,zaa]
 cases n with
 |none=>
  simp only[cnt]
  cases cut cs o 1 with
  |none=>rfl
  |some l=>
   match l with
   |[]=>rfl
   |[_]=>rfl
   |_::_::_=>rfl
 |some m=>
  simp only[cnt]
  cases cut cs o m<;>rfl
theorem qaO (E:qaR)(s:ASt)(cs:List zA):qar E (qal s (.cells cs)) s.next=some cs:=by
 unfold qar qal
 simp only[qas,qaE rfl,cond_true]
theorem qev (E:qaR)(s:ASt)(l:Nat):qar (s.heap++E) {s with heap:=[],toks:=[]} l=qar E s l:=by
 unfold qar
 simp only[qas,qeo]
 cases qas s.heap l with
 |none=>rfl
 |some o=>cases o<;>rfl
theorem qcW {e:Env}(s:ASt)(cs:List zA)(o:Nat)(n:Option Nat):ldH e (qal s (.cells cs)) (.ptr s.next o) n=ldL cs o n:=ldP (qaO _ _ _) o n
theorem qdA (E:qaR)(s:ASt)(cs:List zA)(o:zH):qar E (qal (qal s (.cells cs)) o) s.next=some cs:=by
 unfold qar qal
 have:Nat.beq (s.next+1) s.next=false:=by
  cases h:Nat.beq (s.next+1) s.next with
  |false=>rfl
  |true=>have:=beq_iff.1 h;omega
 simp only[qas,this,qaE rfl,cond_true,cond_false]
theorem qsC {e:Env}(s:ASt)(cs:List zA)(p:zH)(o:Nat)(n:Option Nat):ldH e (qal (qal s (.cells cs)) p) (.ptr s.next o) n=ldL cs o n:=ldP (qdA _ _ _ _) o n
theorem qjv (s:ASt)(zs cs new:List zA)(o:Nat)(ha:cs.all qaY=true)(h:over zs o cs=some new):stH (qal s (.cells zs)) (.ptr s.next o) cs=some (qal s (.cells new)):=by
 unfold stH qbP qal
 simp only[qas,qaK,qaE rfl,cond_true,ha,h,zaa,zab]
def Stab (C:qaR->ASt->Prop):Prop:=∀E s,C E s->C (s.heap++E) {s with heap:=[],toks:=[]}
theorem Stab.at (l:Nat)(cs:List zA):Stab fun E s=>qar E s l=some cs:=fun E s h=>by
 show qar _ _ l=_
 rw[qev];exact h
theorem Stab.and {C D:qaR->ASt->Prop}(h:Stab C)(k:Stab D):Stab fun E s=>C E s/\D E s:=fun E s x=>⟨h E s x.1,k E s x.2⟩
theorem Stab.true:Stab fun _ _=>True:=fun _ _ _=>trivial
def RCn (CP:Nat->Option CF)(f:Nat)(args:List zA)(C:qaR->ASt->Prop)(r:zA):Prop:=Ev fun n=>∀E s,C E s->cl (qag CP n E) f args s=some (r,s)
theorem RCn.of {CP:Nat->Option CF}{f np:Nat}{cf:CF}{args args':List zA}{C:qaR->ASt->Prop}{r':zA}(hcf:CP f=some cf)(hfl:flP cf np=true)(hl:args.length=np)(ha:args.all qbF=true)(hargs:args.map qaD=args')(hC:Stab C)
  (hpl:∀lo,qeh lo r'=true)(hb:Ev fun n=>∀E s,s.heap=[]->s.toks=[]->C E s->∃r s',qau cf (qag CP n E) n args' s=some (r,s')/\qaD r=r'):RCn CP f args C r':=by
 refine Ev.succ (hb.mono fun n h E s hc=>?_)
 obtain⟨r,s',h,hv⟩:=h (s.heap++E) {s with heap:=[],toks:=[]} rfl rfl (hC E s hc)
 rw[qb4]
 exact qhc hcf hfl hl ha hargs h hv (hpl _)
theorem PC.of2 {CP:Nat->Option CF}{f np:Nat}{cf:CF}{args args':List zA}{r':zA}(hcf:CP f=some cf)(hfl:flP cf np=true)(hl:args.length=np)(ha:args.all qbF=true)(hargs:args.map qaD=args')
  (hpl:∀lo,qeh lo r'=true)(hb:Ev fun n=>∀E s,∃r s',qau cf (qag CP n E) n args' s=some (r,s')/\qaD r=r'):PC CP f args r':=by
 refine Ev.succ (hb.mono fun n h E s=>?_)
 obtain⟨r,s',h,hv⟩:=h (s.heap++E) {s with heap:=[],toks:=[]}
 rw[qb4]
 exact qhc hcf hfl hl ha hargs h hv (hpl _)
end Go.AI
namespace Go.AI.Tryz
theorem qm5 (l:List Int)(hl:l.length<=1000000)(n0:Int):Ev fun n=>∀E s,∃y s1 y2 s2,cl (qag CP n E) 183 [iv l] s=some (y,s1)/\ap (qag CP n E) 1 8 y (.sl 1 (qcZ n0) .full) s1=some (y2,s2)/\qcj y2=iv (l++[n0])/\zA.cells none y2=some [y2]/\s2.heap=s.heap/\s2.next=s.next:=by
 refine Ev.succ (Ev.of fun n E s=>?_)
 rw[qb4]
 have h3:ms 0 [] []=some (.sl 0 [] .full):=rfl
 cases l with
 |nil=>
  have h1:(qag CP (n+1) E).call 183 [iv []] s=some (.sl 0 [] .full,s):=by
   refine qm1 (cf:=cf183) (a:=.sl 0 [] .full) (b:=.sl 0 [] .full) (sa:={s with heap:=[],toks:=[]}) (sb:={s with heap:=[],toks:=[]}) (by kernel_rfl) (by kernel_rfl) (by kernel_rfl) (of_decide_eq_true (by kernel_rfl)) rfl rfl ((s183_eq _ _ _ _).trans ?_) ((s183_eq _ _ _ _).trans ?_) rfl rfl<;>rfl
  have hap:=qfU (qag CP (n+1) E) (sz:=1) (b:=8) (new:=qcZ n0) (y:=.sl 1 (qcZ n0) .full) s rfl rfl (by omega)
  exact⟨_,_,_,_,h1,hap,rfl,rfl,rfl,rfl⟩
 |cons a r=>
  have hlen:(qaQ qcZ (a::r)).length=(r.length+1)*1:=qd4 (c:=qcZ) (fun _=>rfl) (a::r)
  have hap0:ap (qag CP n E) 1 8 (.sl 0 [] .full) (iv (a::r)) s=_:=qpB (qag CP n E) (sz:=1) (b:=8) s hlen (by simp only[zar] at hl;omega)
  have h1:(qag CP (n+1) E).call 183 [iv (a::r)] s=some (.sl (r.length+1) (qaQ qcZ (a::r)) (.own s.ntok),qjt s (r.length+1) 1):=by
   refine qpD (cf:=cf183) (args':=[iv (a::r)]) (by kernel_rfl) (by kernel_rfl) (by kernel_rfl) (by kernel_rfl) (by kernel_rfl) (by kernel_rfl) (of_decide_eq_true (by kernel_rfl)) rfl rfl rfl ((s183_eq _ _ _ _).trans ?_) rfl
   unfold s183
   have hq:eqv 5 false (iv (a::r)) (.sl 0 [] .full)=some (bl false):=rfl
   simp only[hq,zaa,qaa,cond_false,h3,hap0,qab]
  have hap:=qpx (qag CP (n+1) E) (sz:=1) (b:=8) (n:=r.length+1) (t:=s.ntok) (cs:=qaQ qcZ (a::r)) (new:=qcZ n0) (y:=.sl 1 (qcZ n0) .full) (qjt s (r.length+1) 1) rfl rfl (by simp only[zar] at hl;omega) s.toks
  have e1:{qjt s (r.length+1) 1 with toks:=(s.ntok,r.length+1,1)::s.toks}=qjt s (r.length+1) 1:=rfl
  rw[e1] at hap
  refine⟨_,_,_,_,h1,hap,?_,rfl,rfl,rfl⟩
  show zA.p _=_
  have:qaQ qcZ (a::r++[n0])=qaQ qcZ (a::r)++qcZ n0:=qfB _ _ _
  rw[iv,this]
  simp only[zaw,zar,zaB]
def vw (x:Sc)(t:Tm):Vw:=⟨t,x.ids.map fun e=>e.ty.res.n,x.top⟩
def _root_.Go.AI.Sc.kid (x:Sc)(t:Tm)(j:Nat):Sc:=
 if t.k=10 then x.with ⟨⟨[],⟨true,t.n⟩⟩,false⟩
 else if t.k=17/\j=1 then x.with ⟨⟨[],⟨false,(szF x (t.ks.headD .z)).1⟩⟩,true⟩
 else if t.k=11/\j=0 then {x with size:=x.size+1}
 else x
theorem qpL (x:Sc)(e:Se)(t:Tm):vw (x.with e) t=⟨t,(x.ids.map fun e=>e.ty.res.n)++[e.ty.res.n],x.top⟩:=by
 simp only[vw,Sc.with,List.map_append,zam,zbn]
theorem qkW (x:Sc)(t u:Tm)(j:Nat)(hj:t.ks[j]? =some u)(hl:x.ids.length<=1000000)(h17:t.k=17->j=1->∃w,t.ks[0]? =some w/\PC CP 132 [(vw x t).v,i64 0] (vw x w).v/\PC CP 130 [(vw x w).v] (i64 (szF x w).1)):PC CP 132 [(vw x t).v,i64 (.ofNat j)] (vw (x.kid t j) u).v:=by
 have hjl:j<t.ks.length:=(zao.1 hj).1
 have hia:iaV 5 (kv t.ks) (i64 (.ofNat j))=some (Tm.cellsL t.ks,j*5):=Tm.ia_kid hjl
 have hz:∀n0:Int,ms 1 [.int .i64 0] [(0,none,.c (i64 n0))]=some (.sl 1 (qcZ n0) .full):=fun _=>rfl
 have hbd:bd [u8 0,i64 0,i64 0,i64 0,.sl 0 [] .full,.sl 0 [] .full,i64 0] [(0,some 5,.c u.v),(5,none,.c (iv (vw x t).sz)),(6,none,.c (i64 (vw x t).ar))]=some (vw x u).v:=by rw[Tm.v_eq];rfl
 have hvz:∀(y:zA) (z:List Int),zA.cells none y=some [y]->∃cs,over (vw x u).c 5 [y]=some cs/\ldL cs 0 (some 7)=some (.agg cs)/\zA.cells (some 7) (.agg cs)=some cs/\(∀a b c d e f g:zA,over [a,b,c,d,e,f,g] 0 cs=some cs)/\(qcj y=iv z->qaD (.agg cs)=(Vw.v ⟨u,z,x.top⟩)):=by
  intro y z hy
  refine⟨[u8 u.k,i64 u.n,i64 u.m,i64 u.i,kv u.ks,y,i64 x.top],rfl,rfl,rfl,fun _ _ _ _ _ _ _=>rfl,fun he=>?_⟩
  show zA.agg [_,_,_,_,_,qcj y,_]=_
  rw[he]
  rfl
 have hsl:(vw x t).sz.length<=1000000:=by simp only[vw,zaZ];exact hl
 refine PC.of2 (cf:=cf132) (np:=2) (args':=[(vw x t).v,i64 (.ofNat j)]) (by kernel_rfl) (by kernel_rfl) rfl rfl rfl (fun _=>rfl) ?_
 suffices Ev fun n=>∀E s,∃r s',s132 (qag CP n E) n (vw x t).v (i64 (.ofNat j)) s=some (r,s')/\qaD r=(vw (x.kid t j) u).v by
  refine this.mono fun n h E s=>?_
  obtain⟨r,s',e,he⟩:=h E s
  exact⟨r,s',(s132_eq _ _ _ _ _).trans e,he⟩
 have hvk:(vw x t).t=t:=rfl
 have hld:∀n E s,ldH (qag CP n E) s (.elem (Tm.cellsL t.ks) (j*5)) (some 5)=some u.v:=fun n E s=>Tm.ld_kid _ _ hj
 by_cases h10:t.k=10
 ·refine(qm5 (vw x t).sz hsl t.n).mono fun n h E s=>?_
  obtain⟨y,s1,y2,s2,e1,e2,e3,e4,_,_⟩:=h E s
  obtain⟨cs,c1,c2,c3,c4,c5⟩:=hvz y2 _ e4
  refine⟨.agg cs,s2,?_,?_⟩
  ·unfold s132 s132_0
   simp only[qaH,qco,quK,qpK,qlX,qkV,hvk,h10,hia,hld,hbd,qju,qad,qaf,decide_true,qaa,cond_true,qaj,zab,zaa,qab,e1,hz,e2,e4,c1,c2,c3,c4]
  ·rw[c5 e3]
   simp only[Sc.kid,h10,if_true,qpL]
   rfl
 ·by_cases h17j:t.k=17∧j=1
  ·obtain⟨h17',rfl⟩:=h17j
   obtain⟨w,hw,g1,g2⟩:=h17 h17' rfl
   have hhd:t.ks.headD .z=w:=by
    cases hk:t.ks with
    |nil=>rw[hk] at hw;cases hw
    |cons a r=>rw[hk] at hw;simp only[zas,zac] at hw;exact hw
   refine((qm5 (vw x t).sz hsl (szF x w).1).and (g1.and g2)).mono fun n ⟨h,g1,g2⟩ E s=>?_
   obtain⟨y,s1,y2,s2,e1,e2,e3,e4,_,_⟩:=h E s
   obtain⟨cs,c1,c2,c3,c4,c5⟩:=hvz y2 _ e4
   refine⟨.agg cs,s2,?_,?_⟩
   ·unfold s132 s132_2 s132_1 s132_0
    have h1:(Int.ofNat 1:Int)=1:=rfl
    have hia1:iaV 5 (kv t.ks) (i64 1)=some (Tm.cellsL t.ks,1*5):=hia
    simp only[qaH,qco,quK,qpK,qlX,qkV,hvk,h17',hia1,hld,hbd,qju,qad,qaf,zaj,h1,decide_true,decide_false,qaa,cond_true,cond_false,qaj,zab,zaa,qab,e1,qch,g1,g2,hz,e2,e4,c1,c2,c3,c4]
   ·rw[c5 e3]
    simp only[Sc.kid,h17',zaj,if_false,true_and,if_true,qpL,hhd]
    rfl
  ·have hkid:(vw (x.kid t j) u)=vw x u:=by
    unfold Sc.kid
    rw[if_neg h10,if_neg h17j]
    split<;>rfl
   refine Ev.of fun n E s=>⟨(vw x u).v,s,?_,by rw[hkid];rfl⟩
   unfold s132 s132_2 s132_1 s132_0
   by_cases h17':t.k=17
   ·have hj1:¬((Int.ofNat j:Int)=1):=by
     intro h
     exact h17j ⟨h17',by simp only[zaf] at h;omega⟩
    simp only[qaH,qch,qco,quK,qpK,qlX,qkV,hvk,h17',hia,hld,hbd,qju,qad,qaf,zaj,hj1,decide_true,decide_false,qaa,cond_true,cond_false,qaj,zab,zaa,qab]
   ·simp only[qaH,qch,qco,quK,qpK,qlX,qkV,hvk,h10,h17',hia,hld,hbd,qju,qad,qaf,decide_false,qaa,cond_false,qaj,zab,zaa,qab]
end Go.AI.Tryz
namespace Go.AI
namespace Tm
abbrev num (n m:Int):Tm:=.mk 1 n m 0 []
abbrev use (i:Int)(ks:List Tm):Tm:=.mk 2 0 0 i ks
abbrev get (i:Int):Tm:=.mk 3 0 0 i []
abbrev put (i:Int)(u:Tm):Tm:=.mk 4 0 0 i [u]
abbrev op (n m:Int)(u w:Tm):Tm:=.mk 5 n m 0 [u,w]
abbrev az (n:Int)(u:Tm):Tm:=.mk 6 n 0 0 [u]
abbrev seq (u w:Tm):Tm:=.mk 7 0 0 0 [u,w]
abbrev ite (c u w:Tm):Tm:=.mk 8 0 0 0 [c,u,w]
abbrev whl (u w:Tm):Tm:=.mk 9 0 0 0 [u,w]
abbrev new (n m:Int)(u:Tm):Tm:=.mk 10 n m 0 [u]
abbrev lbl (u w:Tm):Tm:=.mk 11 0 0 0 [u,w]
abbrev jmp (n:Int):Tm:=.mk 12 n 0 0 []
abbrev cho (u w:Tm):Tm:=.mk 13 0 0 0 [u,w]
abbrev hang:Tm:=.mk 14 0 0 0 []
abbrev val (i:Int):Tm:=.mk 15 0 0 i []
abbrev cel (i:Int):Tm:=.mk 16 0 0 i []
abbrev obj (u w:Tm):Tm:=.mk 17 0 0 0 [u,w]
abbrev ntc (n i:Int)(u:Tm):Tm:=.mk 18 n 0 i [u]
end Tm
inductive Sh:Tm->Prop where
 |num (n m):Sh (.num n m)
 |use (i ks):Sh (.use i ks)
 |get (i):Sh (.get i)
 |put (i u):Sh (.put i u)
 |op (n m u w):Sh (.op n m u w)
 |az (n u):Sh (.az n u)
 |seq (u w):Sh (.seq u w)
 |ite (c u w):Sh (.ite c u w)
 |whl (u w):Sh (.whl u w)
 |new (n m u):Sh (.new n m u)
 |lbl (u w):Sh (.lbl u w)
 |jmp (n):Sh (.jmp n)
 |cho (u w):Sh (.cho u w)
 |hang:Sh .hang
 |val (i):Sh (.val i)
 |cel (i):Sh (.cel i)
 |obj (u w):Sh (.obj u w)
 |ntc (n i u):Sh (.ntc n i u)
theorem quL {l:List Tm}(h:0=l.length):l=[]:=za1.1 h.symm
theorem qwT {l:List Tm}(h:1=l.length):∃u,l=[u]:=by
 match l,h with
 |[u],_=>exact⟨u,rfl⟩
theorem qtD {l:List Tm}(h:2=l.length):∃u w,l=[u,w]:=by
 match l,h with
 |[u,w],_=>exact⟨u,w,rfl⟩
theorem len3 {l:List Tm}(h:3=l.length):∃c u w,l=[c,u,w]:=by
 match l,h with
 |[c,u,w],_=>exact⟨c,u,w,rfl⟩
theorem qlY {k:Int}{f:Form}(h:qct formL k=some f):(k=1/\f=⟨true,true,false,0⟩)\/(k=2/\f=⟨false,false,true,-1⟩)\/(k=3/\f=⟨false,false,true,0⟩)\/(k=4/\f=⟨false,false,true,1⟩)\/(k=5/\f=⟨true,true,false,2⟩)\/(k=6/\f=⟨true,false,false,1⟩)
  \/(k=7/\f=⟨false,false,false,2⟩)\/(k=8/\f=⟨false,false,false,3⟩)\/(k=9/\f=⟨false,false,false,2⟩)\/(k=10/\f=⟨true,true,false,1⟩)\/(k=11/\f=⟨false,false,false,2⟩)\/(k=12/\f=⟨true,false,false,0⟩)
  \/(k=13/\f=⟨false,false,false,2⟩)\/(k=14/\f=⟨false,false,false,0⟩)\/(k=15/\f=⟨false,false,true,0⟩)\/(k=16/\f=⟨false,false,true,0⟩)\/(k=17/\f=⟨false,false,false,2⟩)\/(k=18/\f=⟨true,false,true,1⟩):=by
 unfold formL at h
 iterate 18 (
  unfold qct at h
  split at h
  ·injection h with h
   subst h
   rename_i e
   subst e
   simp)
 cases h
theorem qlZ {t:Tm}(h:qbr t=true):Sh t:=by
 obtain⟨k,n,m,i,ks⟩:=t
 unfold qbr at h
 cases hf:qct formL (Tm.mk k n m i ks).k with
 |none=>rw[hf] at h;cases h
 |some f=>
  rw[hf] at h
  simp only[zag,za5,decide_eq_true_eq,zaf] at h
  obtain⟨⟨⟨h1,h2⟩,h3⟩,h4⟩:=h
  simp only[Tm.n,Tm.m,Tm.i,Tm.ks] at h1 h2 h3 h4
  rcases qlY hf with⟨e,rfl⟩|⟨e,rfl⟩|⟨e,rfl⟩|⟨e,rfl⟩|⟨e,rfl⟩|⟨e,rfl⟩|⟨e,rfl⟩|⟨e,rfl⟩|⟨e,rfl⟩|⟨e,rfl⟩|⟨e,rfl⟩|⟨e,rfl⟩|⟨e,rfl⟩|⟨e,rfl⟩|⟨e,rfl⟩|⟨e,rfl⟩|⟨e,rfl⟩|⟨e,rfl⟩<;>
   simp only[zai,false_or,true_or,Int.reduceLT,Int.reduceNeg] at h1 h2 h3 h4<;>simp only[Tm.k] at e<;>subst e
  ·subst h3;rw[quL (l:=ks) (by omega)];exact .num ..
  ·subst h1 h2;exact .use ..
  ·subst h1 h2;rw[quL (l:=ks) (by omega)];exact .get ..
  ·subst h1 h2;obtain⟨u,rfl⟩:=qwT (l:=ks) (by omega);exact .put ..
  ·subst h3;obtain⟨u,w,rfl⟩:=qtD (l:=ks) (by omega);exact .op ..
  ·subst h2 h3;obtain⟨u,rfl⟩:=qwT (l:=ks) (by omega);exact .az ..
  ·subst h1 h2 h3;obtain⟨u,w,rfl⟩:=qtD (l:=ks) (by omega);exact .seq ..
  ·subst h1 h2 h3;obtain⟨c,u,w,rfl⟩:=len3 (l:=ks) (by omega);exact .ite ..
  ·subst h1 h2 h3;obtain⟨u,w,rfl⟩:=qtD (l:=ks) (by omega);exact .whl ..
  ·subst h3;obtain⟨u,rfl⟩:=qwT (l:=ks) (by omega);exact .new ..
  ·subst h1 h2 h3;obtain⟨u,w,rfl⟩:=qtD (l:=ks) (by omega);exact .lbl ..
  ·subst h2 h3;rw[quL (l:=ks) (by omega)];exact .jmp ..
  ·subst h1 h2 h3;obtain⟨u,w,rfl⟩:=qtD (l:=ks) (by omega);exact .cho ..
  ·subst h1 h2 h3;rw[quL (l:=ks) (by omega)];exact .hang
  ·subst h1 h2;rw[quL (l:=ks) (by omega)];exact .val ..
  ·subst h1 h2;rw[quL (l:=ks) (by omega)];exact .cel ..
  ·subst h1 h2 h3;obtain⟨u,w,rfl⟩:=qtD (l:=ks) (by omega);exact .obj ..
  ·subst h2;obtain⟨u,rfl⟩:=qwT (l:=ks) (by omega);exact .ntc ..
theorem qc7 {t:Tm}(h:Sh t):qbr t=true:=by
 cases h<;>simp[qbr,Tm.k,Tm.n,Tm.m,Tm.i,Tm.ks,formL,qct]
end Go.AI
namespace Go.AI.Tryz
section
variable (x:Sc)
theorem qdB (n m):szF x (.num n m)=(m,qbd m&&qbh n m):=by rw[qcz];unfold qbm;rw[if_pos (qc7 (.num ..))];rfl
theorem qgl (i ks):szF x (.use i ks)=(((x.get i).getD .none).ty.res.n,(x.get i).isSome&&(!((x.get i).getD .none).ty.res.cell&&(!((x.get i).getD .none).arg&&qbv (qdy szF x) ks ((x.get i).getD .none).ty.ps))):=by rw[qcz];unfold qbm;rw[if_pos (qc7 (.use ..))];rfl
theorem qhr (i):szF x (.get i)=(((x.get i).getD .none).ty.res.n,(x.get i).any fun e=>e.ty.res.cell):=by rw[qcz];unfold qbm;rw[if_pos (qc7 (.get ..))];rfl
theorem qeW (i u):szF x (.put i u)=(1,((x.get i).any fun e=>e.ty.res.cell)&&is2 (szF x u) ((x.get i).getD .none).ty.res.n):=by rw[qcz];unfold qbm;rw[if_pos (qc7 (.put ..))];rfl
theorem qhs (i):szF x (.val i)=(((x.get i).getD .none).ty.res.n,(x.get i).isSome&&((x.get i).getD .none).arg):=by rw[qcz];unfold qbm;rw[if_pos (qc7 (.val ..))];rfl
theorem qiA (n):szF x (.jmp n)=(1,qbh n x.size):=by rw[qcz];unfold qbm;rw[if_pos (qc7 (.jmp ..))];rfl
theorem qht:szF x .hang=(1,true):=by rw[qcz];unfold qbm;rw[if_pos (qc7 .hang)];rfl
theorem qeQ (n m u w):szF x (.op n m u w)=if n=1\/n=2\/n=3 then(m,qbd m&&(is2 (szF x u) m&&is2 (szF x w) m)) else if n=4\/n=5 then(2,qbd m&&(is2 (szF x u) m&&is2 (szF x w) m)) else(0,false):=by rw[qcz];unfold qbm;rw[if_pos (qc7 (.op ..))];rfl
theorem qeR (n u):szF x (.az n u)=(n,(szF x u).2&&qbd n):=by rw[qcz];unfold qbm;rw[if_pos (qc7 (.az ..))];rfl
theorem qb2 (u w):szF x (.seq u w)=((szF x w).1,(szF x w).2&&is2 (szF x u) 1):=by rw[qcz];unfold qbm;rw[if_pos (qc7 (.seq ..))];rfl
theorem qcA (c u w):szF x (.ite c u w)=((szF x u).1,((szF x u).2&&is2 (szF x w) (szF x u).1)&&(szF x c).2):=by rw[qcz];unfold qbm;rw[if_pos (qc7 (.ite ..))];rfl
theorem qfD (u w):szF x (.whl u w)=(1,(szF x u).2&&is2 (szF x w) 1):=by rw[qcz];unfold qbm;rw[if_pos (qc7 (.whl ..))];rfl
theorem qeX (n m u):szF x (.new n m u)=((szF (x.with ⟨⟨[],⟨true,n⟩⟩,false⟩) u).1,(szF (x.with ⟨⟨[],⟨true,n⟩⟩,false⟩) u).2&&(qbd n&&qbh m n)):=by rw[qcz];unfold qbm;rw[if_pos (qc7 (.new ..))];rfl
theorem qew (u w):szF x (.lbl u w)=((szF {x with size:=x.size+1} u).1,(szF {x with size:=x.size+1} u).2&&is2 (szF x w) (szF {x with size:=x.size+1} u).1):=by rw[qcz];unfold qbm;rw[if_pos (qc7 (.lbl ..))];rfl
theorem qex (u w):szF x (.cho u w)=((szF x u).1,(szF x u).2&&is2 (szF x w) (szF x u).1):=by rw[qcz];unfold qbm;rw[if_pos (qc7 (.cho ..))];rfl
theorem qeY (i):szF x (.cel i)=(0,false):=by rw[qcz];unfold qbm;rw[if_pos (qc7 (.cel ..))];rfl
theorem qdQ (u w):szF x (.obj u w)=(0,false):=by rw[qcz];unfold qbm;rw[if_pos (qc7 (.obj ..))];rfl
theorem qey (n i u):szF x (.ntc n i u)=((szF x u).1,(szF x u).2&&(((x.get i).any fun e=>e.ty.res.cell)&&(decide (x.top<i)&&qbh n ((x.get i).getD .none).ty.res.n))):=by rw[qcz];unfold qbm;rw[if_pos (qc7 (.ntc ..))];rfl
theorem qdj {x:Sc}{t:Tm}(h:(szF x t).2=true):Sh t:=by
 cases hf:qbr t with
 |true=>exact qlZ hf
 |false=>
  rw[qcz] at h
  unfold qbm at h
  simp only[hf,zai,if_false] at h
end
theorem is2_iff {r:Int×Bool}{n:Int}:is2 r n=true↔r=(n,true):=by
 obtain⟨a,b⟩:=r
 simp only[is2,zag,decide_eq_true_eq,zaq]
 exact And.comm
end Go.AI.Tryz
namespace Go.AI
theorem Sc.get_inv {x:Sc}{i:Int}{e:Se}(h:x.get i=some e):∃j:Nat,i=Int.ofNat j+1/\x.ids[j]? =some e:=by
 unfold Sc.get at h
 split at h
 ·cases h
 ·refine⟨(i-1).toNat,?_,h⟩
  simp only[zaf];omega
end Go.AI
namespace Go.AI.Tryz
theorem SizeC.of {x:Sc}{t:Tm}{r:Int}(h:Ev fun n=>∀E s,∃s',s130 (qag CP n E) n (vw x t).v s=some (i64 r,s')):PC CP 130 [(vw x t).v] (i64 r):=by
 refine PC.of2 (cf:=cf130) (np:=1) (args':=[(vw x t).v]) (by kernel_rfl) (by kernel_rfl) rfl rfl rfl (fun _=>rfl) (h.mono fun n h E s=>?_)
 obtain⟨s',e⟩:=h E s
 exact⟨_,s',(s130_eq _ _ _ _).trans e,rfl⟩
theorem qjw {x:Sc}{t:Tm}{e:Se}(hk:t.k=2\/t.k=3\/t.k=15)(he:x.get t.i=some e)(hl:x.ids.length<=1000000):PC CP 130 [(vw x t).v] (i64 e.ty.res.n):=by
 refine SizeC.of (Ev.of fun n E s=>⟨s,?_⟩)
 obtain⟨j,hi,hj⟩:=Sc.get_inv he
 have hjl:j<x.ids.length:=(zao.1 hj).1
 have hsz:(vw x t).sz[j]? =some e.ty.res.n:=by simp only[vw,za9,hj,zab]
 have hjl2:j<(vw x t).sz.length:=(zao.1 hsz).1
 have hw:qbb .i64 (t.i-1)=Int.ofNat j:=by
  rw[hi,qbu (by simp only[zaf];omega) (by simp only[zaf];omega)]
  simp only[zaf];omega
 have hia:iaV 1 (iv (vw x t).sz) (i64 (.ofNat j))=some (qaQ qcZ (vw x t).sz,j*1):=qbR (c:=qcZ) (sz:=1) hjl2
 have hld:=qeu (c:=qcZ) (sz:=1) (fun _=>rfl) (qag CP n E) s hsz (by omega)
 have hvk:(vw x t).t=t:=rfl
 unfold s130 s130_8 s130_7 s130_6
 rcases hk with hk|hk|hk<;>
 ·simp only[qaH,qlX,vld3,quK,hvk,hk,qad,qaf,qa2,zaj,decide_true,decide_false,qaa,cond_true,cond_false,qaj,zab,zaa,hw,hia,qab,hld]
  rfl
theorem qeL {x y:Sc}{t w:Tm}{r:Int}(hk:t.k=7\/t.k=8\/t.k=10\/t.k=11\/t.k=13\/t.k=18){m:Nat}(hm:t.ks.length=m+1)(hm2:m<10)(hkid:PC CP 132 [(vw x t).v,i64 (.ofNat m)] (vw y w).v)(hw:PC CP 130 [(vw y w).v] (i64 r)):PC CP 130 [(vw x t).v] (i64 r):=by
 refine SizeC.of ((hkid.and hw).mono fun n ⟨h1,h2⟩ E s=>⟨s,?_⟩)
 have hvk:(vw x t).t=t:=rfl
 have hln:ln false (kv t.ks)=some (i64 (.ofNat (m+1))):=by rw[<-hm];rfl
 have hw:qbb .i64 (Int.ofNat (m+1)-1)=Int.ofNat m:=by
  rw[qbu (by simp only[zaf];omega) (by simp only[zaf];omega)]
  simp only[zaf];omega
 unfold s130 s130_8 s130_7 s130_6 s130_5 s130_4 s130_3 s130_2 s130_1
 rcases hk with hk|hk|hk|hk|hk|hk<;>
 ·simp only[qaH,qlX,qco,qch,hvk,hk,hln,qad,qaf,qa2,zaj,decide_true,decide_false,qaa,cond_true,cond_false,qaj,zab,zaa,hw,qab,h1,h2]
theorem qfY:∀(d:Nat) (t:Tm) (x:Sc),t.size<=d->x.B t.size->(szF x t).2=true->PC CP 130 [(vw x t).v] (i64 (szF x t).1)
 |0,t,_,h,_,_=>by have:=Tm.size_pos t;omega
 |d+1,t,x,hd,hB,h=>by
  have hl:x.ids.length<=1000000:=by have:=hB.1;omega
  have IH:∀(u:Tm) (y:Sc),u∈t.ks->y.B u.size->(szF y u).2=true->PC CP 130 [(vw y u).v] (i64 (szF y u).1):=fun u y hu hy hs=>qfY d u y (by have:=qa5 hu;omega) hy hs
  have hvk:(vw x t).t=t:=rfl
  cases qdj h with
  |num n m=>
   rw[qdB] at h⊢
   refine SizeC.of (Ev.of fun n E s=>⟨s,?_⟩)
   unfold s130
   simp only[qaH,qlX,qqS,hvk,Tm.k_mk,Tm.m_mk,qad,qaf,decide_true,qaa,cond_true,zab,zaa]
  |use i ks=>
   rw[qgl] at h⊢
   cases he:x.get i with
   |none=>rw[he] at h;cases h
   |some e=>exact qjw (t:=.use i ks) (.inl rfl) he hl
  |get i=>
   rw[qhr] at h⊢
   cases he:x.get i with
   |none=>rw[he] at h;cases h
   |some e=>exact qjw (t:=.get i) (.inr (.inl rfl)) he hl
  |val i=>
   rw[qhs] at h⊢
   cases he:x.get i with
   |none=>rw[he] at h;cases h
   |some e=>exact qjw (t:=.val i) (.inr (.inr rfl)) he hl
  |put i u=>
   rw[qeW]
   refine SizeC.of (Ev.of fun n E s=>⟨s,?_⟩)
   unfold s130 s130_8 s130_7 s130_6 s130_5 s130_4 s130_3 s130_2 s130_1
   simp only[qaH,qlX,qqS,hvk,Tm.k_mk,Tm.m_mk,qad,qaf,zaj,decide_false,qaa,cond_false,qaj,zab,zaa]
  |whl u w=>
   rw[qfD]
   refine SizeC.of (Ev.of fun n E s=>⟨s,?_⟩)
   unfold s130 s130_8 s130_7 s130_6 s130_5 s130_4 s130_3 s130_2 s130_1
   simp only[qaH,qlX,qqS,hvk,Tm.k_mk,Tm.m_mk,qad,qaf,zaj,decide_false,qaa,cond_false,qaj,zab,zaa]
  |jmp n=>
   rw[qiA]
   refine SizeC.of (Ev.of fun n E s=>⟨s,?_⟩)
   unfold s130 s130_8 s130_7 s130_6 s130_5 s130_4 s130_3 s130_2 s130_1
   simp only[qaH,qlX,qqS,hvk,Tm.k_mk,Tm.m_mk,qad,qaf,zaj,decide_false,qaa,cond_false,qaj,zab,zaa]
  |hang=>
   rw[qht]
   refine SizeC.of (Ev.of fun n E s=>⟨s,?_⟩)
   unfold s130 s130_8 s130_7 s130_6 s130_5 s130_4 s130_3 s130_2 s130_1
   simp only[qaH,qlX,qqS,hvk,Tm.k_mk,Tm.m_mk,qad,qaf,zaj,decide_false,qaa,cond_false,qaj,zab,zaa]
  |op n m u w=>
   rw[qeQ] at h⊢
   refine SizeC.of (Ev.of fun n' E s=>⟨s,?_⟩)
   unfold s130 s130_8 s130_7 s130_6 s130_0
   by_cases h1:n=1\/n=2\/n=3
   ·have h4:¬n=4:=by omega
    have h5:¬n=5:=by omega
    simp only[qaH,qlX,qkV,qqS,hvk,Tm.k_mk,Tm.m_mk,Tm.n_mk,h1,h4,h5,if_true,qad,qaf,zaj,decide_true,decide_false,qaa,cond_true,cond_false,qaj,zab,zaa]
   ·simp only[h1,if_false] at h
    by_cases h45:n=4\/n=5
    ·simp only[qaH,qlX,qkV,qqS,hvk,Tm.k_mk,Tm.m_mk,Tm.n_mk,h1,h45,if_true,if_false,qad,qaf,zaj,decide_true,decide_false,qaa,cond_true,cond_false,qaj,zab,zaa]
     rcases h45 with rfl|rfl<;>rfl
    ·simp only[h45,if_false] at h
     cases h
  |az n u=>
   rw[qeR]
   refine SizeC.of (Ev.of fun n E s=>⟨s,?_⟩)
   unfold s130 s130_8 s130_7 s130_6
   simp only[qaH,qlX,qkV,hvk,Tm.k_mk,Tm.n_mk,qad,qaf,zaj,decide_true,decide_false,qaa,cond_true,cond_false,qaj,zab,zaa]
  |seq u w=>
   rw[qb2] at h⊢
   simp only[zag] at h
   have hw:w∈(Tm.seq u w).ks:=by simp[Tm.ks]
   exact qeL (y:=x) (w:=w) (.inl rfl) (m:=1) rfl (by omega) (qkW x _ w 1 rfl hl (fun h=>nomatch h)) (IH w x hw (qm4 hB (qa5 hw)) h.1)
  |ite c u w=>
   rw[qcA] at h⊢
   simp only[zag,decide_eq_true_eq] at h
   have hw:w∈(Tm.ite c u w).ks:=by simp[Tm.ks]
   have:=IH w x hw (qm4 hB (qa5 hw)) h.1.2.1
   rw[h.1.2.2] at this
   exact qeL (y:=x) (w:=w) (.inr (.inl rfl)) (m:=2) rfl (by omega) (qkW x _ w 2 rfl hl (fun h=>nomatch h)) this
  |new n m u=>
   rw[qeX] at h⊢
   simp only[zag] at h
   have hu:u∈(Tm.new n m u).ks:=by simp[Tm.ks]
   exact qeL (w:=u) (.inr (.inr (.inl rfl))) (m:=0) rfl (by omega) (qkW x _ u 0 rfl hl (fun h=>nomatch h)) (IH u _ hu (qhn hB (qa5 hu)) h.1)
  |lbl u w=>
   rw[qew] at h⊢
   simp only[zag,decide_eq_true_eq] at h
   have hw:w∈(Tm.lbl u w).ks:=by simp[Tm.ks]
   have:=IH w x hw (qm4 hB (qa5 hw)) h.2.1
   rw[h.2.2] at this
   exact qeL (y:=x) (w:=w) (.inr (.inr (.inr (.inl rfl)))) (m:=1) rfl (by omega) (qkW x _ w 1 rfl hl (fun h=>nomatch h)) this
  |cho u w=>
   rw[qex] at h⊢
   simp only[zag,decide_eq_true_eq] at h
   have hw:w∈(Tm.cho u w).ks:=by simp[Tm.ks]
   have:=IH w x hw (qm4 hB (qa5 hw)) h.2.1
   rw[h.2.2] at this
   exact qeL (y:=x) (w:=w) (.inr (.inr (.inr (.inr (.inl rfl))))) (m:=1) rfl (by omega) (qkW x _ w 1 rfl hl (fun h=>nomatch h)) this
  |ntc n i u=>
   rw[qey] at h⊢
   simp only[zag] at h
   have hu:u∈(Tm.ntc n i u).ks:=by simp[Tm.ks]
   exact qeL (y:=x) (w:=u) (.inr (.inr (.inr (.inr (.inr rfl))))) (m:=0) rfl (by omega) (qkW x _ u 0 rfl hl (fun h=>nomatch h)) (IH u x hu (qm4 hB (qa5 hu)) h.1)
  |cel i=>rw[qeY] at h;cases h
  |obj u w=>rw[qdQ] at h;cases h
theorem qpM (x:Sc)(t u:Tm)(j:Nat)(hj:t.ks[j]? =some u)(hB:x.B t.size)(h17:t.k=17->j=1->∃w,t.ks[0]? =some w/\(szF x w).2=true):PC CP 132 [(vw x t).v,i64 (.ofNat j)] (vw (x.kid t j) u).v:=by
 have hl:x.ids.length<=1000000:=by have:=hB.1;omega
 refine qkW x t u j hj hl fun k17 hj1=>?_
 obtain⟨w,hw,hs⟩:=h17 k17 hj1
 have hm:w∈t.ks:=zaM hw
 have h0:=qkW x t w 0 hw hl (fun _ h=>nomatch h)
 have e:vw (x.kid t 0) w=vw x w:=by
  have:¬t.k=10:=by omega
  simp only[Sc.kid,this,if_false]
  simp only[k17]
  rfl
 rw[e] at h0
 exact⟨w,hw,h0,qfY _ w x (zan _) (qm4 hB (qa5 hm)) hs⟩
end Go.AI.Tryz
namespace Go.AI
def qc8 (o:Option Tm):zA:=.tuple [(o.getD .z).v,bl o.isSome]
theorem qaC (o:Option Tm):qc8 o=.tuple [(o.getD .z).v,bl o.isSome]:=rfl
theorem qaP (o:Option Tm):qaD (qc8 o)=qc8 o:=by
 cases o with
 |none=>rfl
 |some t=>
  show zA.tuple [qde t.v,_]=_
  have:qde t.v=t.v:=by rw[Tm.v_eq];rfl
  rw[this];rfl
theorem qaW (lo:Nat)(o:Option Tm):qeh lo (qc8 o)=true:=by
 cases o with
 |none=>rfl
 |some t=>
  show List.all [t.v,bl true] (qh8 lo)=true
  have:qh8 lo t.v=true:=by rw[Tm.v_eq];rfl
  simp only[zap,this];rfl
theorem qrG (a b:Tm):ms 2 [.int .u8 0,.int .i64 0,.int .i64 0,.int .i64 0,.sl 0 [],.int .u8 0,.int .i64 0,.int .i64 0,.int .i64 0,.sl 0 []] [(0,some 5,.c a.v),(5,some 5,.c b.v)]=some (.sl 2 (Tm.cellsL [a,b]) .full):=by
 obtain⟨k,n,m,i,ks⟩:=a
 obtain⟨k',n',m',i',ks'⟩:=b
 rfl
theorem qx5 (a b c:Tm):ms 3 [.int .u8 0,.int .i64 0,.int .i64 0,.int .i64 0,.sl 0 [],.int .u8 0,.int .i64 0,.int .i64 0,.int .i64 0,.sl 0 [],.int .u8 0,.int .i64 0,.int .i64 0,.int .i64 0,.sl 0 []] [(0,some 5,.c a.v),(5,some 5,.c b.v),(10,some 5,.c c.v)]=some (.sl 3 (Tm.cellsL [a,b,c]) .full):=by
 obtain⟨k,n,m,i,ks⟩:=a
 obtain⟨k',n',m',i',ks'⟩:=b
 obtain⟨k'',n'',m'',i'',ks''⟩:=c
 rfl
theorem qpN (a:Tm):ms 1 [.int .u8 0,.int .i64 0,.int .i64 0,.int .i64 0,.sl 0 []] [(0,some 5,.c a.v)]=some (.sl 1 (Tm.cellsL [a]) .full):=by
 obtain⟨k,n,m,i,ks⟩:=a
 rfl
end Go.AI
namespace Go.AI.Tryz
theorem vwt (x:Sc)(t:Tm):(vw x t).t=t:=rfl
theorem quM (x:Sc)(t:Tm):(vw x t).ar=x.top:=rfl
abbrev ev0:Ev fun _=>True:=Ev.of fun _=>trivial
theorem qvE (k n m:Int)(l:List Tm):PC CP 136 [u8 k,i64 n,i64 m,kv l] ((Tm.mk k n m 0 l).v):=by
 refine PC.of2 (cf:=cf136) (np:=4) (args':=[u8 k,i64 n,i64 m,kv l]) (by kernel_rfl) (by kernel_rfl) rfl (by first|rfl|(simp only[zap,qak,qb9];rfl)) (by first|rfl|(simp only[zam,qai,qca];rfl)) (fun lo=>by first|rfl|exact qaM lo _|exact qaW lo _|exact qcf lo _ _) (Ev.mono (ev0) fun N _ E s=>⟨(Tm.mk k n m 0 l).v,s,(s136_eq _ _ _ _ _ _ _).trans ?_,(by first|rfl|exact qai _|exact qaP _|exact qb5 _ _)⟩)
 unfold s136
 have h:bd [u8 0,i64 0,i64 0,i64 0,.sl 0 [] .full] [(0,none,.c (u8 k)),(1,none,.c (i64 n)),(2,none,.c (i64 m)),(4,none,.c (kv l))]=some (Tm.mk k n m 0 l).v:=by rw[Tm.v_eq];rfl
 simp only[h,qah,qaU,qav,zaa]
theorem qn9 (k n m:Int)(l:List Tm)(tk:Tk){n':Nat}{E:qaR}(h:∀E s,cl (qag CP n' E) 136 [u8 k,i64 n,i64 m,kv l] s=some ((Tm.mk k n m 0 l).v,s))(s:ASt):cl (qag CP n' E) 136 [u8 k,i64 n,i64 m,.sl l.length (Tm.cellsL l) tk] s=some ((Tm.mk k n m 0 l).v,s):=by
 rw[qfC (cf:=cf136) (by kernel_rfl) (by kernel_rfl)]
 exact h E s
theorem qpO (a b:Int):PC CP 128 [i64 a,i64 b] ((Tm.num a b).v):=by
 refine PC.of2 (cf:=cf128) (np:=2) (args':=[i64 a,i64 b]) (by kernel_rfl) (by kernel_rfl) rfl (by first|rfl|(simp only[zap,qak,qb9];rfl)) (by first|rfl|(simp only[zam,qai,qca];rfl)) (fun lo=>by first|rfl|exact qaM lo _|exact qaW lo _|exact qcf lo _ _) (Ev.mono (qvE 1 a b []) fun N h E s=>⟨(Tm.num a b).v,s,(s128_eq _ _ _ _ _).trans ?_,(by first|rfl|exact qai _|exact qaP _|exact qb5 _ _)⟩)
 have h':=qn9 (E:=E) 1 a b [] .full h s
 simp only[zaB,Tm.cellsL] at h'
 unfold s128
 simp only[h',qah,qaU,qav,zaa,qab]
theorem qpP (a b:Tm):PC CP 141 [a.v,b.v] ((Tm.seq a b).v):=by
 refine PC.of2 (cf:=cf141) (np:=2) (args':=[a.v,b.v]) (by kernel_rfl) (by kernel_rfl) rfl (by first|rfl|(simp only[zap,qak];rfl)) (by first|rfl|(simp only[zam,qai];rfl)) (fun lo=>by first|rfl|exact qaM lo _|exact qaW lo _|exact qcf lo _ _) (Ev.mono (qvE 7 0 0 [a,b]) fun N h E s=>⟨(Tm.seq a b).v,s,(s141_eq _ _ _ _ _).trans ?_,(by first|rfl|exact qai _|exact qaP _|exact qb5 _ _)⟩)
 have h':=qn9 (E:=E) 7 0 0 [a,b] .full h s
 simp only[zar,zaB,zaK,Nat.reduceAdd] at h'
 unfold s141
 simp only[qrG,h',qah,qaU,qav,zaa,qab]
theorem qxw (a:Tm):PC CP 142 [a.v] ((Tm.az 1 a).v):=by
 refine PC.of2 (cf:=cf142) (np:=1) (args':=[a.v]) (by kernel_rfl) (by kernel_rfl) rfl (by first|rfl|(simp only[zap,qak];rfl)) (by first|rfl|(simp only[zam,qai];rfl)) (fun lo=>by first|rfl|exact qaM lo _|exact qaW lo _|exact qcf lo _ _) (Ev.mono (qvE 6 1 0 [a]) fun N h E s=>⟨(Tm.az 1 a).v,s,(s142_eq _ _ _ _).trans ?_,(by first|rfl|exact qai _|exact qaP _|exact qb5 _ _)⟩)
 have h':=qn9 (E:=E) 6 1 0 [a] .full h s
 simp only[zar,zaB,zaK] at h'
 unfold s142
 simp only[qpN,h',qah,qaU,qav,zaa,qab]
def qaI (t:Tm):Bool:=decide (t.k=1)
def qbJ (t:Tm)(n m:Int):Bool:=qaI t&&(decide (t.n=n)&&decide (t.m=m))
theorem qbY (t:Tm):PC CP 125 [t.v] (bl (qaI t)):=by
 refine PC.of2 (cf:=cf125) (np:=1) (args':=[t.v]) (by kernel_rfl) (by kernel_rfl) rfl (by first|rfl|(simp only[zap,qak];rfl)) (by first|rfl|(simp only[zam,qai];rfl)) (fun lo=>by first|rfl|exact qaM lo _|exact qaW lo _|exact qcf lo _ _) (Ev.mono (ev0) fun N _ E s=>⟨bl (qaI t),s,(s125_eq _ _ _ _).trans ?_,(by first|rfl|exact qai _|exact qaP _|exact qb5 _ _)⟩)
 unfold s125 qaI
 simp only[qah,qbc,qad,qaf,zab,zaa]
theorem qjx (t:Tm)(n0 m0:Int):PC CP 143 [t.v,i64 n0,i64 m0] (bl (qbJ t n0 m0)):=by
 refine PC.of2 (cf:=cf143) (np:=3) (args':=[t.v,i64 n0,i64 m0]) (by kernel_rfl) (by kernel_rfl) rfl (by first|rfl|(simp only[zap,qak];rfl)) (by first|rfl|(simp only[zam,qai];rfl)) (fun lo=>by first|rfl|exact qaM lo _|exact qaW lo _|exact qcf lo _ _) (Ev.mono (qbY t) fun N h E s=>⟨bl (qbJ t n0 m0),s,(s143_eq _ _ _ _ _ _).trans ?_,(by first|rfl|exact qai _|exact qaP _|exact qb5 _ _)⟩)
 unfold s143 s143_0 qbJ
 simp only[h,qah,qaU,qb1,qef,qad,qaf,qaa,qaj,zab,zaa,qab]
 cases qaI t<;>cases decide (t.n=n0)<;>rfl
theorem qdx (x:Vw)(k:Int):PC CP 124 [x.v,u8 k] (bl (decide (x.t.k=k))):=by
 refine PC.of2 (cf:=cf124) (np:=2) (args':=[x.v,u8 k]) (by kernel_rfl) (by kernel_rfl) rfl (by first|rfl|(simp only[zap,qak,qb9];rfl)) (by first|rfl|(simp only[zam,qai,qca];rfl)) (fun lo=>by first|rfl|exact qaM lo _|exact qaW lo _|exact qcf lo _ _) (Ev.mono (ev0) fun N _ E s=>⟨bl (decide (x.t.k=k)),s,(s124_eq _ _ _ _ _).trans ?_,(by first|rfl|exact qai _|exact qaP _|exact qb5 _ _)⟩)
 unfold s124
 simp only[qaH,qlX,qad,qaf,zab,zaa]
theorem qtE (b:Bool):PC CP 138 [bl b] (i64 (cond b 1 0)):=by
 refine PC.of2 (cf:=cf138) (np:=1) (args':=[bl b]) (by kernel_rfl) (by kernel_rfl) rfl (by first|rfl|(simp only[zap,qak,qb9];rfl)) (by first|rfl|(simp only[zam,qai,qca];rfl)) (fun lo=>by first|rfl|exact qaM lo _|exact qaW lo _|exact qcf lo _ _) (Ev.mono (ev0) fun N _ E s=>⟨i64 (cond b 1 0),s,(s138_eq _ _ _ _).trans ?_,(by first|rfl|exact qai _|exact qaP _|exact qb5 _ _)⟩)
 unfold s138
 cases b<;>rfl
theorem nothing_c:PC CP 98 [] (qc8 none):=by
 refine PC.of2 (cf:=cf98) (np:=0) (args':=[]) (by kernel_rfl) (by kernel_rfl) rfl (by first|rfl|(simp only[zap,qak,qb9];rfl)) (by first|rfl|(simp only[zam,qai,qca];rfl)) (fun lo=>by first|rfl|exact qaM lo _|exact qaW lo _|exact qcf lo _ _) (Ev.mono (ev0) fun N _ E s=>⟨.tuple [.agg [u8 0,i64 0,i64 0,i64 0,.sl 0 [] .full],bl false],s,(s98_eq _ _ _).trans ?_,(by first|rfl|exact qai _|exact qaP _|exact qb5 _ _)⟩)
 rfl
theorem qfZ (x:Vw)(u:Tm)(hu:x.t.ks[0]? =some u):PC CP 133 [x.v] (u.v):=by
 refine PC.of2 (cf:=cf133) (np:=1) (args':=[x.v]) (by kernel_rfl) (by kernel_rfl) rfl (by first|rfl|(simp only[zap,qak,qb9];rfl)) (by first|rfl|(simp only[zam,qai,qca];rfl)) (fun lo=>by first|rfl|exact qaM lo _|exact qaW lo _|exact qcf lo _ _) (Ev.mono (ev0) fun N _ E s=>⟨u.v,s,(s133_eq _ _ _ _).trans ?_,(by first|rfl|exact qai _|exact qaP _|exact qb5 _ _)⟩)
 obtain⟨i0,l0⟩:=qb8 (n:=N) (E:=E) hu
 unfold s133
 simp only[i0,l0,qah,qaU,qav,qaH,qco,zaa,qab]
theorem qm6 (x:Vw)(u:Tm)(hu:x.t.ks[1]? =some u):PC CP 145 [x.v] (u.v):=by
 refine PC.of2 (cf:=cf145) (np:=1) (args':=[x.v]) (by kernel_rfl) (by kernel_rfl) rfl (by first|rfl|(simp only[zap,qak,qb9];rfl)) (by first|rfl|(simp only[zam,qai,qca];rfl)) (fun lo=>by first|rfl|exact qaM lo _|exact qaW lo _|exact qcf lo _ _) (Ev.mono (ev0) fun N _ E s=>⟨u.v,s,(s145_eq _ _ _ _).trans ?_,(by first|rfl|exact qai _|exact qaP _|exact qb5 _ _)⟩)
 obtain⟨i0,l0⟩:=qdz (n:=N) (E:=E) hu
 unfold s145
 simp only[i0,l0,qah,qaU,qav,qaH,qco,zaa,qab]
theorem qvF (b:Bool)(f:Nat)(C:qaR->ASt->Prop)(hC:Stab C)(t:Tm)(h:b=true->Ev fun n=>∀E s,C E s->clv (qag CP n E) (.p (.func f [] [])) [] s=some (t.v,s)):RCn CP 126 [bl b,.p (.func f [] [])] C (qc8 (if b then some t else none)):=by
 refine RCn.of (cf:=cf126) (np:=2) (args':=[bl b,.p (.func f [] [])]) (by kernel_rfl) (by kernel_rfl) rfl rfl rfl hC (fun lo=>qaW lo _) ?_
 cases b with
 |false=>
  refine nothing_c.mono fun n h E s _ _ _=>⟨_,s,(s126_eq _ _ _ _ _).trans ?_,qaP _⟩
  unfold s126
  have e:qc8 none=.tuple [Tm.z.v,bl false]:=rfl
  simp only[h,e,qah,qaU,qav,zal,qaa,cond_true,zaa,qab,qan,qax,qay,qam,qaC]
  rfl
 |true=>
  refine(h rfl).mono fun n h E s _ _ hc=>⟨_,s,(s126_eq _ _ _ _ _).trans ?_,qaP _⟩
  unfold s126
  simp only[h E s hc,qah,qaU,qav,zak,qaa,cond_false,zaa,qab,qam,qaC]
  rfl
end Go.AI.Tryz
namespace Go.AI.Tryz
open Classical
theorem qtF (az bs:List Tm)(h1:az.length<=maxLen)(h2:bs.length<=maxLen)(h:∀a∈az,∀b∈bs,PC CP 139 [a.v,b.v] (bl (decide (a=b)))):PC CP 185 [kv az,kv bs,.p (.func 139 [] [])] (bl (decide (az=bs))):=by
 have hev:Ev fun n=>∀a∈az,∀b∈bs,∀E s,cl (qag CP n E) 139 [a.v,b.v] s=some (bl (decide (a=b)),s):=Ev.all az fun a ha=>Ev.all bs fun b hb=>h a ha b hb
 rw[qbM] at h1 h2
 refine PC.of2 (cf:=cf185) (np:=3) (args':=[kv az,kv bs,.p (.func 139 [] [])]) (by kernel_rfl) (by kernel_rfl) rfl rfl rfl (fun _=>rfl) ((hev.and (Ev.ge (az.length+1))).mono fun n ⟨hn,hm⟩ E s=>⟨bl (decide (az=bs)),s,(s185_eq _ _ _ _ _ _).trans ?_,rfl⟩)
 unfold s185
 simp only[qad,qa1,qaa,zab,zaa,qbq]
 by_cases hlen:az.length=bs.length
 ·have hd:decide (Int.ofNat az.length=Int.ofNat bs.length)=true:=by simp only[hlen,decide_true]
  simp only[hd,zak,cond_false]
  unfold s185_0
  generalize hF:(fun(h14:zA->Nat->Nat->List zA->List zA->ASt->Res) (x8:zA) (g9 g10:Nat) (c11 c12:List zA) (s13:ASt)=>_)=F
  have key:∀k (j g g':Nat) (c c':List zA),j<=az.length->az.length-j<k->lp (fun _ _ _ _ _ _=>none) F k (i64 (.ofNat j)) g g' c c' s=some (bl (decide (az.drop j=bs.drop j)),s):=by
   intro k
   induction k with
   |zero=>intro j g g' c c' _ h;omega
   |succ k ih=>
    intro j g g' c c' hj hk
    rw[qa6]
    generalize lp _ _ k=L at ih⊢
    subst hF
    rcases zbi j az.length with h|h
    ·have hb:j<bs.length:=by omega
     have ka:az[j]? =some az[j]:=zah h
     have kb:bs[j]? =some bs[j]:=zah hb
     have ia:iaV 5 (kv az) (i64 (.ofNat j))=some (Tm.cellsL az,j*5):=Tm.ia_kid h
     have ib:iaV 5 (kv bs) (i64 (.ofNat j))=some (Tm.cellsL bs,j*5):=Tm.ia_kid hb
     have la:∀s,ldH (qag CP n E) s (.elem (Tm.cellsL az) (j*5)) (some 5)=some az[j].v:=fun s=>Tm.ld_kid _ _ ka
     have lb:∀s,ldH (qag CP n E) s (.elem (Tm.cellsL bs) (j*5)) (some 5)=some bs[j].v:=fun s=>Tm.ld_kid _ _ kb
     have hc:=hn az[j] (za4 h) bs[j] (za4 hb) E s
     rw[zaz h,zaz hb]
     simp only[of_lt.2 h,ia,ib,la,lb,za8,qgk CP (show 1<=n by omega),hc,qaN (show j<9223372036854775807 by omega),qah,qaU,qav,qad,qao,qaw,decide_true,qaa,cond_true,zab,zaa,qab,qam,cnd]
     by_cases he:az[j]=bs[j]
     ·simp only[he,decide_true,zak,cond_false,zbo,true_and]
      exact ih _ _ _ _ _ (by omega) (by omega)
     ·simp only[he,decide_false,zal,cond_true,zbo,false_and]
    ·have hje:j=az.length:=by omega
     subst hje
     have h3:¬(Int.ofNat az.length<Int.ofNat az.length):=fun h=>zaX _ (of_lt.1 h)
     have d1:az.drop az.length=[]:=zbb
     have d2:bs.drop az.length=[]:=by rw[hlen,zbb]
     simp only[h3,d1,d2,qad,qao,qaw,decide_true,decide_false,qaa,cond_false,zab,zaa,cnd]
  exact key n 0 0 0 [] [] (zaY _) (by omega)
 ·have hd:decide (Int.ofNat az.length=Int.ofNat bs.length)=false:=by simp only[zaf,decide_eq_false_iff_not];omega
  have hne:az≠bs:=fun h=>hlen (by rw[h])
  simp only[hd,hne,decide_false,zal,cond_true]
theorem qjy (a:Tm):∀(b:Tm),a.Ok->b.Ok->PC CP 139 [a.v,b.v] (bl (decide (a=b))):=by
 induction a using Tm.ind with
 |h k n m i ks ih=>
  intro b ha hb
  have hkids:=qtF ks b.ks ha.len hb.len fun x hx y hy=>ih x hx y (ha.kids x hx) (hb.kids y hy)
  obtain⟨k',n',m',i',ks'⟩:=b
  refine PC.of2 (cf:=cf139) (np:=2) (args':=[(Tm.mk k n m i ks).v,(Tm.mk k' n' m' i' ks').v]) (by kernel_rfl) (by kernel_rfl) rfl (by simp only[zap,qak];rfl) (by simp only[zam,qai];rfl) (fun _=>rfl) (hkids.mono fun n0 h E s=>⟨bl (decide (Tm.mk k n m i ks=Tm.mk k' n' m' i' ks')),s,(s139_eq _ _ _ _ _).trans ?_,rfl⟩)
  unfold s139 s139_0
  have hd:decide (Tm.mk k n m i ks=Tm.mk k' n' m' i' ks')=(decide (k=k')&&(decide (n=n')&&(decide (m=m')&&(decide (i=i')&&decide (ks=ks'))))):=by
   simp only[Tm.mk.injEq,Bool.decide_and]
  simp only[Tm.ks] at h
  rw[hd]
  simp only[Tm.k,Tm.n,Tm.m,Tm.i,Tm.ks,h,qah,qbc,qb1,qef,qcL,qbj,qad,qaf,qaa,qaj,zab,zaa,qab]
  cases decide (k=k')<;>cases decide (n=n')<;>cases decide (m=m')<;>cases decide (i=i')<;>rfl
end Go.AI.Tryz
namespace Go.AI.Tryz
def IC {ι:Type}(f:Nat)(args:ι->List zA)(C:ι->qaR->ASt->Prop)(r:zA):Prop:=Ev fun n=>∀p E s,C p E s->cl (qag CP n E) f (args p) s=some (r,s)
theorem IC.of {ι:Type}{f np:Nat}{cf:CF}{args args':ι->List zA}{C:ι->qaR->ASt->Prop}{r':zA}(hcf:CP f=some cf)(hfl:flP cf np=true)(hl:∀p,(args p).length=np)(ha:∀p,(args p).all qbF=true)(hargs:∀p,(args p).map qaD=args' p)(hC:∀p,Stab (C p))
  (hpl:∀lo,qeh lo r'=true)(hb:Ev fun n=>∀p E s,C p E s->∃r s',qau cf (qag CP n E) n (args' p) s=some (r,s')/\qaD r=r'):IC f args C r':=by
 refine Ev.succ (hb.mono fun n h p E s hc=>?_)
 obtain⟨r,s',h,hv⟩:=h p (s.heap++E) {s with heap:=[],toks:=[]} (hC p E s hc)
 rw[qb4]
 exact qhc hcf hfl (hl p) (ha p) (hargs p) h hv (hpl _)
abbrev C1 (cs:List zA):Nat->qaR->ASt->Prop:=fun l E s=>qar E s l=some cs
abbrev C2 (cs ds:List zA):Nat×Nat->qaR->ASt->Prop:=fun l E s=>qar E s l.1=some cs/\qar E s l.2=some ds
theorem qdf {ι:Type}(b:Bool)(f:Nat)(l:ι->List zA)(hl:∀p,(l p).all qqV=true)(C:ι->qaR->ASt->Prop)(hC:∀p,Stab (C p))(t:Tm)(h:b=true->IC f l C t.v):IC 126 (fun p=>[bl b,.func f [] (l p)]) C (qc8 (if b then some t else none)):=by
 refine IC.of (cf:=cf126) (np:=2) (args':=fun p=>[bl b,.func f [] (l p)]) (by kernel_rfl) (by kernel_rfl) (fun _=>rfl) (fun p=>by simp only[zap,qbF,qaY,hl p];rfl) (fun _=>rfl) hC (fun lo=>qaW lo _) ?_
 cases b with
 |false=>
  refine nothing_c.mono fun n h p E s _=>⟨_,s,(s126_eq _ _ _ _ _).trans ?_,qaP _⟩
  unfold s126
  have e:qc8 none=.tuple [Tm.z.v,bl false]:=rfl
  simp only[h,e,qah,qaU,qav,zal,qaa,cond_true,zaa,qab,qan,qax,qay,qam,qaC]
  rfl
 |true=>
  refine((h rfl).and (Ev.ge 1)).mono fun n ⟨h,hn⟩ p E s hc=>⟨_,s,(s126_eq _ _ _ _ _).trans ?_,qaP _⟩
  unfold s126
  have hcl:=h p E s hc
  simp only[qh0 CP hn,zaJ,hcl,qah,qaU,qav,zak,qaa,cond_false,zaa,qab,qam,qaC]
  rfl
def _root_.Go.AI.Vw.p (x:Vw):zP:=.agg [.int .u8 x.t.k,.int .i64 x.t.n,.int .i64 x.t.m,.int .i64 x.t.i,.sl x.t.ks.length (Tm.cellsL x.t.ks),.sl x.sz.length (qaQ qcZ x.sz),.int .i64 x.ar]
theorem ql0 (f:Nat)(x:Vw):mf f [x.v] []=some (.p (.func f [x.p] [])):=rfl
theorem qxx {n:Nat}(hn:1<=n)(E:qaR)(f:Nat)(x:Vw)(args:List zA)(s:ASt):clv (qag CP n E) (.p (.func f [x.p] [])) args s=cl (qag CP n E) f (x.v::args) s:=by
 obtain⟨m,rfl⟩:∃m,n=m+1:=⟨n-1,by omega⟩
 rw[qhd,qfe,qb4]
 simp only[zam,zbn,zbg,zaF,zaJ]
 rfl
theorem qdt (b:Bool)(f:Nat)(x:Vw)(t:Tm)(h:b=true->PC CP f [x.v] t.v):PC CP 126 [bl b,.p (.func f [x.p] [])] (qc8 (if b then some t else none)):=by
 refine PC.of2 (cf:=cf126) (np:=2) (args':=[bl b,.p (.func f [x.p] [])]) (by kernel_rfl) (by kernel_rfl) rfl rfl rfl (fun lo=>qaW lo _) ?_
 cases b with
 |false=>
  refine nothing_c.mono fun n h E s=>⟨_,s,(s126_eq _ _ _ _ _).trans ?_,qaP _⟩
  unfold s126
  have e:qc8 none=.tuple [Tm.z.v,bl false]:=rfl
  simp only[h,e,qah,qaU,qav,zal,qaa,cond_true,zaa,qab,qan,qax,qay,qam,qaC]
  rfl
 |true=>
  refine((h rfl).and (Ev.ge 1)).mono fun n ⟨h,hn⟩ E s=>⟨_,s,(s126_eq _ _ _ _ _).trans ?_,qaP _⟩
  unfold s126
  simp only[qxx hn,h E s,qah,qaU,qav,zak,qaa,cond_false,zaa,qab,qam,qaC]
  rfl
theorem qjz (n:Nat)(E:qaR)(f:Nat):(qag CP n E).pure f=qda CP f:=by cases n<;>rfl
theorem qgE (js:List (Nat×Nat))(h:js.all (fun x=>Nat.blt 1 x.2&&qda CP (x.2-2))=true)(n:Nat)(E:qaR)(tr:TrL)(l o k:Nat):okV (qag CP n E) tr (.ptr l o) k js=true:=by
 unfold okV
 rw[zaN] at h⊢
 intro x hx
 unfold okJ
 rw[qjz,h x hx]
 rfl
abbrev RuC (f:Nat)(x:Sc)(t:Tm)(o:Option Tm):Prop:=PC CP f [(vw x t).v] (qc8 o)
theorem RuC.of {f:Nat}{cf:CF}{x:Sc}{t:Tm}{o:Option Tm}(hcf:CP f=some cf)(hfl:flP cf 1=true)(hb:Ev fun n=>∀E s,∃s',qau cf (qag CP n E) n [(vw x t).v] s=some (qc8 o,s')):RuC f x t o:=by
 refine PC.of2 (cf:=cf) (np:=1) (args':=[(vw x t).v]) hcf hfl rfl rfl rfl (fun lo=>qaW lo _) (hb.mono fun n h E s=>?_)
 obtain⟨s',e⟩:=h E s
 exact⟨_,s',e,qaP _⟩
theorem kf {n:Nat}{E:qaR}{l:List Tm}{u:Tm}{j:Nat}(h:l[j]? =some u)(s:ASt):ldH (qag CP n E) s (.elem (Tm.cellsL l) (j*5)) none=some (u8 u.k)/\ldH (qag CP n E) s (.elem (Tm.cellsL l) (j*5+1)) none=some (i64 u.n)/\ldH (qag CP n E) s (.elem (Tm.cellsL l) (j*5+4)) none=some (kv u.ks):=by
 refine⟨?_,?_,?_⟩
 ·have:=Tm.ld_field (qag CP n E) s h 0 (by omega)
  rw[zbk] at this
  rw[this];cases u;rfl
 ·rw[Tm.ld_field (qag CP n E) s h 1 (by omega)];cases u;rfl
 ·rw[Tm.ld_field (qag CP n E) s h 4 (by omega)];cases u;rfl
def asR (t:Tm):Option Tm:=if t.k=6 then(match t.ks with|[u]=>if qaI u then some (.num (u.n.tmod t.n) t.n) else none|_=>none) else none
theorem qxy (x:Sc)(n0:Int)(u:Tm)(hn:n0≠0):IC 131 (fun l=>[.ptr l 0]) (C1 (vw x (.az n0 u)).c) (Tm.num (u.n.tmod n0) n0).v:=by
 refine IC.of (cf:=cf131) (np:=1) (args':=fun l=>[.ptr l 0]) (by kernel_rfl) (by kernel_rfl) (fun _=>rfl) (fun _=>rfl) (fun _=>rfl) (fun l=>Stab.at l _) (fun _=>rfl) ((qpO (u.n.tmod n0) n0).mono fun N h l E s hc=>⟨(Tm.num (u.n.tmod n0) n0).v,s,(s131_eq _ _ _ _).trans ?_,rfl⟩)
 have hk:[u][0]? =some u:=rfl
 obtain⟨i0,l0⟩:=qb8 (n:=N) (E:=E) hk
 have hf:=fun s=>(kf (n:=N) (E:=E) hk s).2.1
 have hc':qar (qag CP N E).E s l=some (vw x (.az n0 u)).c:=by rw[qa9];exact hc
 unfold s131
 simp only[ldP hc',zaK,i0,hf,qet _ _ _ hn,h,qah,qaU,qav,qkV,qco,vwt,qad,zab,zaa,qab,qbD,Tm.n_mk,Tm.ks_mk]
theorem as_c (x:Sc)(t:Tm)(h:Sh t)(hn:t.k=6->t.n≠0):RuC 73 x t (asR t):=by
 by_cases hk:t.k=6
 ·cases h with
  |az n0 u=>
   have e:asR (.az n0 u)=if qaI u then some (.num (u.n.tmod n0) n0) else none:=rfl
   rw[e]
   refine RuC.of (cf:=cf73) (by kernel_rfl) (by kernel_rfl) (((qdx (vw x (.az n0 u)) 6).and ((qbY u).and (qdf (qaI u) 131 (fun l=>[.ptr l 0]) (fun _=>rfl) (C1 (vw x (.az n0 u)).c) (fun l=>Stab.at l _) _ fun _=>qxy x n0 u (hn rfl)))).mono fun N ⟨h1,h2,h3⟩ E s=>?_)
   obtain⟨i0,l0⟩:=qb8 (n:=N) (E:=E) (l:=[u]) (u:=u) rfl
   have hw:=fun(s:ASt)=>h3 s.next E (qal s (.cells (vw x (.az n0 u)).c)) (qaO _ _ _)
   refine⟨qal s (.cells (vw x (.az n0 u)).c),(s73_eq _ _ _ _).trans ?_⟩
   unfold s73 s73_0
   simp only[h1,i0,l0,h2,hw,qah,qaU,qav,qaH,qch,qco,qds,vwt,decide_true,qaa,cond_true,qaj,zaa,qab,qan,qax,qay,qa3,qbw,cnd,qcW,Tm.k_mk,Tm.ks_mk,qaC]
  |_=>simp only[Tm.k] at hk;omega
 ·have e:asR t=none:=by unfold asR;rw[if_neg hk]
  rw[e]
  refine RuC.of (cf:=cf73) (by kernel_rfl) (by kernel_rfl) (((qdx (vw x t) 6).and (qdf false 131 (fun l=>[.ptr l 0]) (fun _=>rfl) (C1 (vw x t).c) (fun l=>Stab.at l _) .z fun h=>nomatch h)).mono fun N ⟨h1,h3⟩ E s=>?_)
  have hw:=fun(s:ASt)=>h3 s.next E (qal s (.cells (vw x t).c)) (qaO _ _ _)
  refine⟨qal s (.cells (vw x t).c),(s73_eq _ _ _ _).trans ?_⟩
  unfold s73 s73_0
  simp only[h1,hw,hk,zai,if_false,qah,qaU,qav,qaH,qch,qco,qds,vwt,decide_false,qaa,cond_false,qaj,zaa,qab,qan,qax,qay,qa3,qbw,cnd,qcW,qaC,zaR,zaG]
end Go.AI.Tryz
namespace Go.AI.Tryz
open Classical
structure Gd (x:Sc)(t:Tm):Prop where
 sh:Sh t
 b:x.B t.size
 sz:t.k≠16->t.k≠17->(szF x t).2=true
 ok:t.Ok
theorem Gd.l {x:Sc}{t:Tm}(g:Gd x t):x.ids.length<=1000000:=by have:=g.b.1;omega
theorem isSize_iff {n:Int}:qbd n=true↔1<=n/\n<=64:=by
 simp only[qbd,zag,za0,decide_eq_false_iff_not];omega
theorem isBelow_iff {n m:Int}:qbh n m=true↔0<=n/\n<m:=by
 simp only[qbh,zag,za0,decide_eq_false_iff_not,decide_eq_true_eq];omega
theorem qeM {t:Tm}(h:Sh t)(hn:qaI t=true):∃n m,t=.num n m:=by
 have hk:t.k=1:=by simpa[qaI] using hn
 cases h with
 |num n m=>exact⟨n,m,rfl⟩
 |_=>simp only[Tm.k_mk] at hk;omega
theorem qdR {x:Sc}{t:Tm}(h:(szF x t).2=true)(hn:qaI t=true):0<=t.n/\t.n<t.m/\t.m<=64/\(szF x t).1=t.m:=by
 obtain⟨n,m,rfl⟩:=qeM (qdj h) hn
 rw[qdB] at h⊢
 simp only[zag,isSize_iff,isBelow_iff] at h
 exact⟨h.2.1,h.2.2,h.1.2,rfl⟩
def qgF (n m a b:Int):Int:=if n=1 then(a+b).tmod m else if n=2 then(a-b+m).tmod m else if n=3 then(a*b).tmod m else if n=4 then cond (decide (a=b)) 1 0 else cond (decide (a<b)) 1 0
theorem qrH (n m a b:Int)(hm:1<=m/\m<=64)(ha:0<=a/\a<64)(hb:0<=b/\b<64):PC CP 129 [i64 n,i64 m,i64 a,i64 b] (i64 (qgF n m a b)):=by
 refine PC.of2 (cf:=cf129) (np:=4) (args':=[i64 n,i64 m,i64 a,i64 b]) (by kernel_rfl) (by kernel_rfl) rfl rfl rfl (fun _=>rfl) (((qtE (decide (a=b))).and (qtE (decide (a<b)))).mono fun N ⟨h1,h2⟩ E s=>⟨i64 (qgF n m a b),s,(s129_eq _ _ _ _ _ _ _).trans ?_,rfl⟩)
 have hm0:m≠0:=by omega
 have hab:0<=a*b/\a*b<4096:=by
  obtain⟨ha1,ha2⟩:=ha
  obtain⟨hb1,hb2⟩:=hb
  refine⟨Int.mul_nonneg ha1 hb1,?_⟩
  have:a*b<=63*63:=Int.mul_le_mul (by omega) (by omega) hb1 (by omega)
  omega
 have w1:qbb .i64 (a+b)=a+b:=qbu (by omega) (by omega)
 have w2:qbb .i64 (a-b)=a-b:=qbu (by omega) (by omega)
 have w3:qbb .i64 (a-b+m)=a-b+m:=qbu (by omega) (by omega)
 have w4:qbb .i64 (a*b)=a*b:=qbu (by omega) (by omega)
 unfold s129 qgF
 by_cases n1:n=1
 ·simp only[n1,if_true,w1,qet _ _ _ hm0,qad,qaf,qao,qaw,qa2,zaj,decide_true,decide_false,qaa,cond_true,cond_false,zab,zaa]
 ·by_cases n2:n=2
  ·simp only[n2,if_true,if_false,w2,w3,qet _ _ _ hm0,qad,qaf,qao,qaw,qa2,zaj,decide_true,decide_false,qaa,cond_true,cond_false,zab,zaa]
  ·by_cases n3:n=3
   ·simp only[n3,if_true,if_false,qpu,w4,qet _ _ _ hm0,qad,qaf,qao,qaw,qa2,zaj,decide_true,decide_false,qaa,cond_true,cond_false,zab,zaa]
   ·by_cases n4:n=4
    ·simp only[n4,if_true,if_false,h1,qad,qaf,qao,qaw,qa2,zaj,decide_true,decide_false,qaa,cond_true,cond_false,zab,zaa,qab]
    ·simp only[n1,n2,n3,n4,if_false,h2,qad,qaf,qao,qaw,qa2,decide_false,qaa,cond_false,zab,zaa,qab]
def opR (x:Sc)(t:Tm):Option Tm:=if t.k=5 then(match t.ks with|[a,b]=>if qaI a&&qaI b then some (.num (qgF t.n t.m a.n b.n) (szF x t).1) else none|_=>none) else none
theorem qxz (x:Sc)(n m:Int)(a b:Tm)(g:Gd x (.op n m a b))(ha:qaI a=true)(hb:qaI b=true):IC 127 (fun l=>[.ptr l 0]) (C1 (vw x (.op n m a b)).c) (Tm.num (qgF n m a.n b.n) (szF x (.op n m a b)).1).v:=by
 have hsz:=g.sz (by simp[Tm.k]) (by simp[Tm.k])
 have hs2:=hsz
 rw[qeQ] at hs2
 have hin:qbd m=true/\is2 (szF x a) m=true/\is2 (szF x b) m=true:=by
  split at hs2
  ·simpa only[zag] using hs2
  ·split at hs2
   ·simpa only[zag] using hs2
   ·cases hs2
 obtain⟨h1,h2,h3⟩:=hin
 rw[is2_iff] at h2 h3
 have ra:=qdR (x:=x) (by rw[h2]) ha
 have rb:=qdR (x:=x) (by rw[h3]) hb
 rw[h2] at ra
 rw[h3] at rb
 rw[isSize_iff] at h1
 refine IC.of (cf:=cf127) (np:=1) (args':=fun l=>[.ptr l 0]) (by kernel_rfl) (by kernel_rfl) (fun _=>rfl) (fun _=>rfl) (fun _=>rfl) (fun l=>Stab.at l _) (fun _=>rfl) (((qrH n m a.n b.n h1 (by omega) (by omega)).and ((qfY _ _ x (zan _) g.b hsz).and (qpO (qgF n m a.n b.n) (szF x (.op n m a b)).1))).mono fun N ⟨h1,h2,h3⟩ l E s hc=>⟨(Tm.num (qgF n m a.n b.n) (szF x (.op n m a b)).1).v,s,(s127_eq _ _ _ _).trans ?_,rfl⟩)
 obtain⟨i0,l0⟩:=qb8 (n:=N) (E:=E) (l:=[a,b]) (u:=a) rfl
 obtain⟨i1,l1⟩:=qdz (n:=N) (E:=E) (l:=[a,b]) (u:=b) rfl
 have f0:=fun s=>(kf (n:=N) (E:=E) (l:=[a,b]) (j:=0) (u:=a) rfl s).2.1
 have f1:=fun s=>(kf (n:=N) (E:=E) (l:=[a,b]) (j:=1) (u:=b) rfl s).2.1
 have hc':qar (qag CP N E).E s l=some (vw x (.op n m a b)).c:=by rw[qa9];exact hc
 unfold s127
 simp only[ldP hc',zaK,i0,f0,i1,f1,h1,h2,h3,qgE [(18,131)] (by kernel_rfl),zat,qah,qaU,qav,qch,qkV,qqS,qco,vwt,zaa,qab,qbD,cnd,Tm.n_mk,Tm.m_mk,Tm.ks_mk]
theorem op_c (x:Sc)(t:Tm)(g:Gd x t):RuC 72 x t (opR x t):=by
 by_cases hk:t.k=5
 ·cases g.sh with
  |op n m a b=>
   have e:opR x (.op n m a b)=if qaI a&&qaI b then some (.num (qgF n m a.n b.n) (szF x (.op n m a b)).1) else none:=rfl
   rw[e]
   refine RuC.of (cf:=cf72) (by kernel_rfl) (by kernel_rfl) (((qdx (vw x (.op n m a b)) 5).and ((qbY a).and ((qbY b).and (qdf (qaI a&&qaI b) 127 (fun l=>[.ptr l 0]) (fun _=>rfl) (C1 (vw x (.op n m a b)).c) (fun l=>Stab.at l _) _ fun h=>qxz x n m a b g (by simp only[zag] at h;exact h.1) (by simp only[zag] at h;exact h.2))))).mono fun N ⟨h1,h2,h3,h4⟩ E s=>?_)
   obtain⟨i0,l0⟩:=qb8 (n:=N) (E:=E) (l:=[a,b]) (u:=a) rfl
   obtain⟨i1,l1⟩:=qdz (n:=N) (E:=E) (l:=[a,b]) (u:=b) rfl
   have hw:=fun(s:ASt)=>h4 s.next E (qal s (.cells (vw x (.op n m a b)).c)) (qaO _ _ _)
   refine⟨qal s (.cells (vw x (.op n m a b)).c),(s72_eq _ _ _ _).trans ?_⟩
   unfold s72 s72_0
   clear e
   generalize qaI a=qa at h2 hw⊢
   cases qa<;>simp only[zay,zav] at hw<;>simp only[h1,i0,l0,i1,l1,h2,h3,hw,zay,zav,qah,qaU,qav,qaH,qch,qco,qds,vwt,decide_true,qaa,cond_true,cond_false,qaj,zaa,qab,qan,qax,qay,qa3,qbw,cnd,qcW,Tm.k_mk,Tm.ks_mk,qaC]
  |_=>simp only[Tm.k_mk] at hk;omega
 ·have e:opR x t=none:=by unfold opR;rw[if_neg hk]
  rw[e]
  refine RuC.of (cf:=cf72) (by kernel_rfl) (by kernel_rfl) (((qdx (vw x t) 5).and (qdf false 127 (fun l=>[.ptr l 0]) (fun _=>rfl) (C1 (vw x t).c) (fun l=>Stab.at l _) .z fun h=>nomatch h)).mono fun N ⟨h1,h3⟩ E s=>?_)
  have hw:=fun(s:ASt)=>h3 s.next E (qal s (.cells (vw x t).c)) (qaO _ _ _)
  refine⟨qal s (.cells (vw x t).c),(s72_eq _ _ _ _).trans ?_⟩
  unfold s72 s72_0
  simp only[h1,hw,hk,zai,if_false,qah,qaU,qav,qaH,qch,qco,qds,vwt,decide_false,qaa,cond_false,qaj,zaa,qab,qan,qax,qay,qa3,qbw,cnd,qcW,qaC,zaR,zaG]
def qh1 (x:Sc)(t:Tm):Option Tm:=if t.k=6 then(match t.ks with|[u]=>if !qaI u&&decide ((szF x u).1=t.n) then some u else none|_=>none) else none
theorem qtG (x:Sc)(t:Tm)(g:Gd x t):RuC 74 x t (qh1 x t):=by
 by_cases hk:t.k=6
 ·cases g.sh with
  |az n0 u=>
   have e:qh1 x (.az n0 u)=if !qaI u&&decide ((szF x u).1=n0) then some u else none:=rfl
   rw[e]
   have hsz:=g.sz (by simp[Tm.k]) (by simp[Tm.k])
   rw[qeR,zag] at hsz
   have hlt:u.size<(Tm.az n0 u).size:=qa5 (by simp[Tm.ks])
   refine RuC.of (cf:=cf74) (by kernel_rfl) (by kernel_rfl) (((qdx (vw x (.az n0 u)) 6).and ((qbY u).and ((qdt (!qaI u&&decide ((szF x u).1=n0)) 133 (vw x (.az n0 u)) u fun _=>qfZ _ u rfl).and ((qpM x (.az n0 u) u 0 rfl g.b (fun h=>nomatch h)).and (qfY _ u x (zan _) (qm4 g.b hlt) hsz.1))))).mono fun N ⟨h1,h2,h3,h4,h5⟩ E s=>?_)
   obtain⟨i0,l0⟩:=qb8 (n:=N) (E:=E) (l:=[u]) (u:=u) rfl
   have h4':∀E s,cl (qag CP N E) 132 [(vw x (.az n0 u)).v,i64 0] s=some ((vw x u).v,s):=h4
   refine⟨s,(s74_eq _ _ _ _).trans ?_⟩
   unfold s74 s74_0
   clear e
   generalize qaI u=qa at h2 h3⊢
   cases qa<;>simp only[zak,zal,zay,zav] at h3<;>simp only[h1,i0,l0,h2,h3,h4',h5,ql0,zay,zav,qah,qaU,qav,qaH,qch,qkV,qco,vwt,qad,qaf,decide_true,zak,zal,qaa,cond_true,cond_false,qaj,zab,zaa,qab,qan,qax,qay,qam,Tm.k_mk,Tm.n_mk,Tm.ks_mk,qaC]
  |_=>simp only[Tm.k_mk] at hk;omega
 ·have e:qh1 x t=none:=by unfold qh1;rw[if_neg hk]
  rw[e]
  refine RuC.of (cf:=cf74) (by kernel_rfl) (by kernel_rfl) (((qdx (vw x t) 6).and (qdt false 133 (vw x t) .z fun h=>nomatch h)).mono fun N ⟨h1,h3⟩ E s=>?_)
  refine⟨s,(s74_eq _ _ _ _).trans ?_⟩
  unfold s74 s74_0
  simp only[h1,h3,ql0,hk,zai,if_false,qah,qaU,qav,qaH,qch,qkV,qco,vwt,decide_false,qaa,cond_false,qaj,zaa,qab,qan,qax,qay,qaC,zaR,zaG]
end Go.AI.Tryz
namespace Go.AI
def qeZ:List (zP×zP):=[(.int .i64 1,.int .i64 0),(.int .i64 2,.int .i64 0),(.int .i64 3,.int .i64 1)]
def qjP (n:Int):Option Int:=if n=1 then some 0 else if n=2 then some 0 else if n=3 then some 1 else none
theorem quN {e:Env}{s:ASt}{k y:Int}{es es':List (zP×zP)}(hp:qgb es (.int .i64 k) (.int .i64 y)=some es'):ins e 1 (.map s.next) (i64 k) (i64 y) (qcs s es)=some (qaq,qcs s es'):=by
 unfold ins stV qcs
 have hy:zA.pureW (i64 y)=some (.int .i64 y):=rfl
 simp only[qaJ,Arg.ev,qas,qaK,za8,cond_true,qdK,hy,hp,zaa,zab]
theorem qsD (e:Env)(s:ASt):mkm e s=some (.map s.next,qcs s []):=rfl
theorem qrI (n:Int):qdF qeZ (.int .i64 n)=some ((qjP n).map (zP.int .i64)):=by
 have h:∀k,qsV (.int .i64 n) (.int .i64 k)=some (decide (n=k)):=by
  intro k
  show some (ieq n k)=_
  rw[qcG]
 unfold qeZ qjP
 simp only[qdF,h,zaa]
 by_cases h1:n=1
 ·simp only[h1,decide_true,cond_true,if_true];rfl
 ·by_cases h2:n=2
  ·simp only[h2,zaj,decide_true,decide_false,cond_true,cond_false,if_true,if_false];rfl
  ·by_cases h3:n=3
   ·simp only[h3,zaj,decide_true,decide_false,cond_true,cond_false,if_true,if_false];rfl
   ·simp only[h1,h2,h3,decide_false,cond_false,if_false];rfl
theorem qsE {e:Env}{s:ASt}{n:Int}:lk e 1 (i64 0) true (.map s.next) (i64 n) (qcs s qeZ)=some (.tuple [i64 ((qjP n).getD 0),bl (qjP n).isSome],qcs s qeZ):=by
 unfold lk stV
 have hm:qcR e.E (qcs s qeZ) s.next=some qeZ:=qhq _ _ _
 simp only[qaJ,Arg.ev,hm,zaa,qdK,cond_true,qrI]
 cases qjP n<;>rfl
end Go.AI
namespace Go.AI.Tryz
open Classical
def qc0 (t:Tm):Option Tm:=if t.k=5 then(match t.ks with|[a,b]=>if(qjP t.n).isSome&&(!qaI a&&(qaI b&&decide (b.n=(qjP t.n).getD 0))) then some a else none|_=>none) else none
theorem qpQ (x:Sc)(t:Tm)(g:Gd x t):RuC 75 x t (qc0 t):=by
 by_cases hk:t.k=5
 ·cases g.sh with
  |op n m a b=>
   have e:qc0 (.op n m a b)=if(qjP n).isSome&&(!qaI a&&(qaI b&&decide (b.n=(qjP n).getD 0))) then some a else none:=rfl
   rw[e]
   refine RuC.of (cf:=cf75) (by kernel_rfl) (by kernel_rfl) (((qdx (vw x (.op n m a b)) 5).and ((qbY a).and ((qbY b).and (qdt ((qjP n).isSome&&(!qaI a&&(qaI b&&decide (b.n=(qjP n).getD 0)))) 133 (vw x (.op n m a b)) a fun _=>qfZ _ a rfl)))).mono fun N ⟨h1,h2,h3,hw⟩ E s=>?_)
   obtain⟨i0,l0⟩:=qb8 (n:=N) (E:=E) (l:=[a,b]) (u:=a) rfl
   obtain⟨i1,l1⟩:=qdz (n:=N) (E:=E) (l:=[a,b]) (u:=b) rfl
   have f1:=fun s=>(kf (n:=N) (E:=E) (l:=[a,b]) (j:=1) (u:=b) rfl s).2.1
   have e1:ins (qag CP N E) 1 (.map s.next) (i64 1) (i64 0) (qcs s [])=some (qaq,qcs s [(.int .i64 1,.int .i64 0)]):=quN rfl
   have e2:ins (qag CP N E) 1 (.map s.next) (i64 2) (i64 0) (qcs s [(.int .i64 1,.int .i64 0)])=some (qaq,qcs s [(.int .i64 1,.int .i64 0),(.int .i64 2,.int .i64 0)]):=quN rfl
   have e3:ins (qag CP N E) 1 (.map s.next) (i64 3) (i64 1) (qcs s [(.int .i64 1,.int .i64 0),(.int .i64 2,.int .i64 0)])=some (qaq,qcs s qeZ):=quN rfl
   refine⟨qcs s qeZ,(s75_eq _ _ _ _).trans ?_⟩
   clear e
   unfold s75 s75_0
   generalize qaI a=qa at h2 hw⊢
   generalize qaI b=qb at h3 hw⊢
   cases hq:(qjP n).isSome<;>cases qa<;>cases qb<;>simp only[hq,zak,zal,zay,zav] at hw<;>simp only[qsD,e1,e2,e3,qsE,hq,h1,i0,l0,i1,l1,f1,h2,h3,hw,ql0,zay,zav,zak,zal,qah,qaU,qav,qaH,qch,qkV,qco,vwt,qad,qaf,decide_true,zak,zal,qaa,cond_true,cond_false,qaj,zab,zaa,qab,qan,qax,qay,qam,Tm.k_mk,Tm.n_mk,Tm.ks_mk,qaC]
  |_=>simp only[Tm.k_mk] at hk;omega
 ·have e:qc0 t=none:=by unfold qc0;rw[if_neg hk]
  rw[e]
  refine RuC.of (cf:=cf75) (by kernel_rfl) (by kernel_rfl) (((qdx (vw x t) 5).and (qdt false 133 (vw x t) .z fun h=>nomatch h)).mono fun N ⟨h1,hw⟩ E s=>?_)
  have e1:ins (qag CP N E) 1 (.map s.next) (i64 1) (i64 0) (qcs s [])=some (qaq,qcs s [(.int .i64 1,.int .i64 0)]):=quN rfl
  have e2:ins (qag CP N E) 1 (.map s.next) (i64 2) (i64 0) (qcs s [(.int .i64 1,.int .i64 0)])=some (qaq,qcs s [(.int .i64 1,.int .i64 0),(.int .i64 2,.int .i64 0)]):=quN rfl
  have e3:ins (qag CP N E) 1 (.map s.next) (i64 3) (i64 1) (qcs s [(.int .i64 1,.int .i64 0),(.int .i64 2,.int .i64 0)])=some (qaq,qcs s qeZ):=quN rfl
  refine⟨qcs s qeZ,(s75_eq _ _ _ _).trans ?_⟩
  unfold s75 s75_0
  simp only[qsD,e1,e2,e3,qsE,h1,hw,hk,ql0,zai,if_false,qah,qaU,qav,qaH,qch,qkV,qco,vwt,decide_false,qaa,cond_false,qaj,zaa,qab,qan,qax,qay,qaC,zaR,zaG]
theorem qtH (l:List Int)(hl:l.length<=1000000)(a:Int):PC CP 184 [iv l,i64 a] (i64 (qbo (fun b=>decide (a=b)) l 0)):=by
 refine PC.of2 (cf:=cf184) (np:=2) (args':=[iv l,i64 a]) (by kernel_rfl) (by kernel_rfl) rfl rfl rfl (fun _=>rfl) ((Ev.ge (l.length+1)).mono fun n hm E s=>⟨i64 (qbo (fun b=>decide (a=b)) l 0),s,(s184_eq _ _ _ _ _).trans ?_,rfl⟩)
 unfold s184 s184_0
 simp only[zaa,qbq]
 generalize hF:(fun(h5:zA->Res) (x4:zA)=>_)=F
 refine qck _ F l.length (fun j L=>L (i64 (.ofNat j))) (fun j=>some (i64 (qbo (fun b=>decide (a=b)) l j),s)) (fun j L hj ih=>?_) (fun L=>?_) n 0 (zaY _) (by omega)
 ·subst hF
  have hk:l[j]? =some l[j]:=zah hj
  have hia:iaV 1 (iv l) (i64 (.ofNat j))=some (qaQ qcZ l,j*1):=qbR (c:=qcZ) (sz:=1) hj
  have hld:=qeu (c:=qcZ) (sz:=1) (fun _=>rfl) (qag CP n E) s hk (by omega)
  simp only[of_lt.2 hj,hia,hld,qaN (show j<9223372036854775807 by omega),qad,qao,qaw,decide_true,qaa,cond_true,zab,zaa,qab]
  have hx:(qcZ l[j])[0]? =some (.int .i64 l[j]):=rfl
  simp only[hx,qad,qaf,qaa,zab,zaa]
  have hdr:l.drop j=l[j]::l.drop (j+1):=zaz hj
  by_cases h:a=l[j]
  ·have:qbo (fun b=>decide (a=b)) l j=.ofNat j:=by
    unfold qbo
    rw[hdr,List.findIdx?_cons]
    simp only[<-h,decide_true,if_true,zbk]
   simp only[<-h,this,decide_true,cond_true]
  ·have:qbo (fun b=>decide (a=b)) l j=qbo (fun b=>decide (a=b)) l (j+1):=by
    unfold qbo
    rw[hdr,List.findIdx?_cons]
    simp only[h,decide_false,zai,if_false]
    cases(l.drop (j+1)).findIdx? (fun b=>decide (a=b)) with
    |none=>rfl
    |some i=>simp only[zab,zaf];omega
   simp only[h,this,decide_false,cond_false]
   exact ih
 ·subst hF
  have h3:¬(Int.ofNat l.length<Int.ofNat l.length):=fun h=>zaX _ (of_lt.1 h)
  simp only[h3,qad,qao,qaw,decide_false,qaa,cond_false,zab,zaa]
  have:qbo (fun b=>decide (a=b)) l l.length= -1:=by
   unfold qbo
   rw[zbb];rfl
  rw[this]
theorem qoa (l:List Int)(hl:l.length<=1000000)(a:Int):PC CP 134 [iv l,i64 a] (bl (l.any fun b=>decide (a=b))):=by
 refine PC.of2 (cf:=cf134) (np:=2) (args':=[iv l,i64 a]) (by kernel_rfl) (by kernel_rfl) rfl (by first|rfl|(simp only[zap,qak,qb9];rfl)) (by first|rfl|(simp only[zam,qai,qca];rfl)) (fun lo=>by first|rfl|exact qaM lo _|exact qaW lo _|exact qcf lo _ _) (Ev.mono (qtH l hl a) fun N h E s=>⟨bl (l.any fun b=>decide (a=b)),s,(s134_eq _ _ _ _ _).trans ?_,(by first|rfl|exact qai _|exact qaP _|exact qb5 _ _)⟩)
 unfold s134
 have:=qfV (qjr (fun b=>decide (a=b)) l)
 simp only[h,ge1,this,qad,zab,zaa,qab]
def qh2 (t:Tm):Option Tm:=if t.k=5 then(match t.ks with|[a,b]=>if(decide (t.n=1)||(decide (t.n=3)||decide (t.n=4)))&&(qaI a&&!qaI b) then some (.op t.n t.m b a) else none|_=>none) else none
theorem qtI (x:Sc)(n m:Int)(a b:Tm):IC 135 (fun l=>[.ptr l 0]) (C1 (vw x (.op n m a b)).c) (Tm.op n m b a).v:=by
 refine IC.of (cf:=cf135) (np:=1) (args':=fun l=>[.ptr l 0]) (by kernel_rfl) (by kernel_rfl) (fun _=>rfl) (fun _=>rfl) (fun _=>rfl) (fun l=>Stab.at l _) (fun _=>rfl) ((qvE 5 n m [b,a]).mono fun N h l E s hc=>⟨(Tm.op n m b a).v,s,(s135_eq _ _ _ _).trans ?_,rfl⟩)
 have h':=qn9 (E:=E) 5 n m [b,a] .full h s
 simp only[zar,zaB,zaK,Nat.reduceAdd] at h'
 obtain⟨i0,l0⟩:=qb8 (n:=N) (E:=E) (l:=[a,b]) (u:=a) rfl
 obtain⟨i1,l1⟩:=qdz (n:=N) (E:=E) (l:=[a,b]) (u:=b) rfl
 have hc':qar (qag CP N E).E s l=some (vw x (.op n m a b)).c:=by rw[qa9];exact hc
 unfold s135
 simp only[ldP hc',zaK,i0,l0,i1,l1,qrG,h',qah,qaU,qav,qkV,qqS,qco,vwt,zaa,qab,qbD,Tm.n_mk,Tm.m_mk,Tm.ks_mk]
theorem qvG (x:Sc)(t:Tm)(g:Gd x t):RuC 76 x t (qh2 t):=by
 by_cases hk:t.k=5
 ·cases g.sh with
  |op n m a b=>
   have e:qh2 (.op n m a b)=if(decide (n=1)||(decide (n=3)||decide (n=4)))&&(qaI a&&!qaI b) then some (.op n m b a) else none:=rfl
   rw[e]
   refine RuC.of (cf:=cf76) (by kernel_rfl) (by kernel_rfl) (((qdx (vw x (.op n m a b)) 5).and ((qbY a).and ((qbY b).and ((qoa [1,3,4] (by simp) n).and (qdf ((decide (n=1)||(decide (n=3)||decide (n=4)))&&(qaI a&&!qaI b)) 135 (fun l=>[.ptr l 0]) (fun _=>rfl) (C1 (vw x (.op n m a b)).c) (fun l=>Stab.at l _) _ fun h=>qtI x n m a b))))).mono fun N ⟨h1,h2,h3,h5,h4⟩ E s=>?_)
   obtain⟨i0,l0⟩:=qb8 (n:=N) (E:=E) (l:=[a,b]) (u:=a) rfl
   obtain⟨i1,l1⟩:=qdz (n:=N) (E:=E) (l:=[a,b]) (u:=b) rfl
   have hw:=fun(s:ASt)=>h4 s.next E (qal s (.cells (vw x (.op n m a b)).c)) (qaO _ _ _)
   have hms:ms 3 [.int .i64 0,.int .i64 0,.int .i64 0] [(0,none,.c (i64 1)),(1,none,.c (i64 3)),(2,none,.c (i64 4))]=some (.sl 3 [.int .i64 1,.int .i64 3,.int .i64 4] .full):=rfl
   have hct:∀s,cl (qag CP N E) 134 [.sl 3 [.int .i64 1,.int .i64 3,.int .i64 4] .full,i64 n] s=some (bl (decide (n=1)||(decide (n=3)||decide (n=4))),s):=by
    intro s
    rw[qfC (cf:=cf134) (by kernel_rfl) (by kernel_rfl)]
    have:=h5 E s
    simp only[List.any_cons,List.any_nil,Bool.or_false] at this
    exact this
   refine⟨qal s (.cells (vw x (.op n m a b)).c),(s76_eq _ _ _ _).trans ?_⟩
   unfold s76 s76_0
   clear e
   generalize (decide (n=1)||(decide (n=3)||decide (n=4)))=q at hct hw⊢
   generalize qaI a=qa at h2 hw⊢
   generalize qaI b=qb at h3 hw⊢
   cases q<;>cases qa<;>cases qb<;>simp only[zay,zav,zak,zal] at hw<;>simp only[h1,hms,hct,i0,l0,i1,l1,h2,h3,hw,zay,zav,qah,qaU,qav,qaH,qch,qkV,qco,qds,vwt,decide_true,zak,zal,qaa,cond_true,cond_false,qaj,zaa,qab,qan,qax,qay,qam,qa3,qbw,cnd,qcW,Tm.k_mk,Tm.n_mk,Tm.ks_mk,qaC]
  |_=>simp only[Tm.k_mk] at hk;omega
 ·have e:qh2 t=none:=by unfold qh2;rw[if_neg hk]
  rw[e]
  refine RuC.of (cf:=cf76) (by kernel_rfl) (by kernel_rfl) (((qdx (vw x t) 5).and (qdf false 135 (fun l=>[.ptr l 0]) (fun _=>rfl) (C1 (vw x t).c) (fun l=>Stab.at l _) .z fun h=>nomatch h)).mono fun N ⟨h1,h3⟩ E s=>?_)
  have hw:=fun(s:ASt)=>h3 s.next E (qal s (.cells (vw x t).c)) (qaO _ _ _)
  refine⟨qal s (.cells (vw x t).c),(s76_eq _ _ _ _).trans ?_⟩
  unfold s76 s76_0
  simp only[h1,hw,hk,zai,if_false,qah,qaU,qav,qaH,qch,qkV,qds,vwt,decide_false,qaa,cond_false,qaj,zaa,qab,qan,qax,qay,qa3,qbw,cnd,qcW,qaC,zaR,zaG]
def ifR (t:Tm):Option Tm:=if t.k=8 then(match t.ks with|[c,a,b]=>if qaI c then some (if c.n=0 then b else a) else none|_=>none) else none
theorem qxA (x:Sc)(c a b:Tm):IC 137 (fun l=>[.ptr l 0]) (C1 (vw x (.ite c a b)).c) (if c.n=0 then b else a).v:=by
 refine IC.of (cf:=cf137) (np:=1) (args':=fun l=>[.ptr l 0]) (by kernel_rfl) (by kernel_rfl) (fun _=>rfl) (fun _=>rfl) (fun _=>rfl) (fun l=>Stab.at l _) (fun lo=>qaM lo _) ((qtE (decide (c.n=0))).mono fun N h l E s hc=>⟨(if c.n=0 then b else a).v,s,(s137_eq _ _ _ _).trans ?_,qai _⟩)
 obtain⟨i0,l0⟩:=qb8 (n:=N) (E:=E) (l:=[c,a,b]) (u:=c) rfl
 obtain⟨i1,l1⟩:=qdz (n:=N) (E:=E) (l:=[c,a,b]) (u:=a) rfl
 obtain⟨i2,l2⟩:=qn5 (n:=N) (E:=E) (l:=[c,a,b]) (u:=b) rfl
 have f0:=fun s=>(kf (n:=N) (E:=E) (l:=[c,a,b]) (j:=0) (u:=c) rfl s).2.1
 have hc':qar (qag CP N E).E s l=some (vw x (.ite c a b)).c:=by rw[qa9];exact hc
 have w1:qbb .i64 (1+1)=2:=rfl
 have w0:qbb .i64 (1+0)=1:=rfl
 unfold s137
 by_cases hz:c.n=0
 ·simp only[hz,decide_true,cond_true] at h
  simp only[ldP hc',zaK,i0,f0,hz,h,if_true,w1,i2,l2,qgE [(10,140)] (by kernel_rfl),zat,qah,qaU,qav,qco,vwt,qad,qaf,qaw,decide_true,zab,zaa,qab,qbD,cnd,Tm.ks_mk]
 ·simp only[hz,decide_false,cond_false] at h
  simp only[ldP hc',zaK,i0,f0,hz,h,if_false,w0,i1,l1,qgE [(10,140)] (by kernel_rfl),zat,qah,qaU,qav,qco,vwt,qad,qaf,qaw,decide_false,zab,zaa,qab,qbD,cnd,Tm.ks_mk]
theorem if_c (x:Sc)(t:Tm)(g:Gd x t):RuC 77 x t (ifR t):=by
 by_cases hk:t.k=8
 ·cases g.sh with
  |ite c a b=>
   have e:ifR (.ite c a b)=if qaI c then some (if c.n=0 then b else a) else none:=rfl
   rw[e]
   refine RuC.of (cf:=cf77) (by kernel_rfl) (by kernel_rfl) (((qdx (vw x (.ite c a b)) 8).and ((qbY c).and (qdf (qaI c) 137 (fun l=>[.ptr l 0]) (fun _=>rfl) (C1 (vw x (.ite c a b)).c) (fun l=>Stab.at l _) _ fun h=>qxA x c a b))).mono fun N ⟨h1,h2,h4⟩ E s=>?_)
   obtain⟨i0,l0⟩:=qb8 (n:=N) (E:=E) (l:=[c,a,b]) (u:=c) rfl
   have hw:=fun(s:ASt)=>h4 s.next E (qal s (.cells (vw x (.ite c a b)).c)) (qaO _ _ _)
   refine⟨qal s (.cells (vw x (.ite c a b)).c),(s77_eq _ _ _ _).trans ?_⟩
   unfold s77 s77_0
   clear e
   simp only[h1,i0,l0,h2,hw,qah,qaU,qav,qaH,qch,qco,qds,vwt,decide_true,qaa,cond_true,qaj,zaa,qab,qan,qax,qay,qa3,qbw,cnd,qcW,Tm.k_mk,Tm.ks_mk,qaC]
  |_=>simp only[Tm.k_mk] at hk;omega
 ·have e:ifR t=none:=by unfold ifR;rw[if_neg hk]
  rw[e]
  refine RuC.of (cf:=cf77) (by kernel_rfl) (by kernel_rfl) (((qdx (vw x t) 8).and (qdf false 137 (fun l=>[.ptr l 0]) (fun _=>rfl) (C1 (vw x t).c) (fun l=>Stab.at l _) .z fun h=>nomatch h)).mono fun N ⟨h1,h3⟩ E s=>?_)
  have hw:=fun(s:ASt)=>h3 s.next E (qal s (.cells (vw x t).c)) (qaO _ _ _)
  refine⟨qal s (.cells (vw x t).c),(s77_eq _ _ _ _).trans ?_⟩
  unfold s77 s77_0
  simp only[h1,hw,hk,zai,if_false,qah,qaU,qav,qaH,qch,qco,qds,vwt,decide_false,qaa,cond_false,qaj,zaa,qab,qan,qax,qay,qa3,qbw,cnd,qcW,qaC,zaR,zaG]
def qh3 (t:Tm):Option Tm:=if t.k=8 then(match t.ks with|[c,a,b]=>if !qaI c&&decide (a=b) then some (.seq (.az 1 c) a) else none|_=>none) else none
theorem qtJ (x:Sc)(c a b:Tm):IC 140 (fun l=>[.ptr l 0]) (C1 (vw x (.ite c a b)).c) (Tm.seq (.az 1 c) a).v:=by
 refine IC.of (cf:=cf140) (np:=1) (args':=fun l=>[.ptr l 0]) (by kernel_rfl) (by kernel_rfl) (fun _=>rfl) (fun _=>rfl) (fun _=>rfl) (fun l=>Stab.at l _) (fun lo=>qaM lo _) (((qxw c).and (qpP (.az 1 c) a)).mono fun N ⟨h,h2⟩ l E s hc=>⟨(Tm.seq (.az 1 c) a).v,s,(s140_eq _ _ _ _).trans ?_,qai _⟩)
 obtain⟨i0,l0⟩:=qb8 (n:=N) (E:=E) (l:=[c,a,b]) (u:=c) rfl
 obtain⟨i1,l1⟩:=qdz (n:=N) (E:=E) (l:=[c,a,b]) (u:=a) rfl
 have hc':qar (qag CP N E).E s l=some (vw x (.ite c a b)).c:=by rw[qa9];exact hc
 unfold s140
 simp only[ldP hc',zaK,i0,l0,h,h2,i1,l1,qgE [(5,144)] (by kernel_rfl),zat,qah,qaU,qav,qco,vwt,zaa,qab,qbD,cnd,Tm.ks_mk]
theorem qtK (x:Sc)(t:Tm)(g:Gd x t):RuC 78 x t (qh3 t):=by
 by_cases hk:t.k=8
 ·cases g.sh with
  |ite c a b=>
   have e:qh3 (.ite c a b)=if !qaI c&&decide (a=b) then some (.seq (.az 1 c) a) else none:=rfl
   rw[e]
   have oa:=g.ok.kids a (by simp[Tm.ks])
   have ob:=g.ok.kids b (by simp[Tm.ks])
   refine RuC.of (cf:=cf78) (by kernel_rfl) (by kernel_rfl) (((qdx (vw x (.ite c a b)) 8).and ((qbY c).and ((qjy a b oa ob).and (qdf (!qaI c&&decide (a=b)) 140 (fun l=>[.ptr l 0]) (fun _=>rfl) (C1 (vw x (.ite c a b)).c) (fun l=>Stab.at l _) _ fun h=>qtJ x c a b)))).mono fun N ⟨h1,h2,h3,h4⟩ E s=>?_)
   obtain⟨i0,l0⟩:=qb8 (n:=N) (E:=E) (l:=[c,a,b]) (u:=c) rfl
   obtain⟨i1,l1⟩:=qdz (n:=N) (E:=E) (l:=[c,a,b]) (u:=a) rfl
   obtain⟨i2,l2⟩:=qn5 (n:=N) (E:=E) (l:=[c,a,b]) (u:=b) rfl
   have hw:=fun(s:ASt)=>h4 s.next E (qal s (.cells (vw x (.ite c a b)).c)) (qaO _ _ _)
   refine⟨qal s (.cells (vw x (.ite c a b)).c),(s78_eq _ _ _ _).trans ?_⟩
   unfold s78 s78_0
   clear e
   generalize qaI c=qa at h2 hw⊢
   cases qa<;>simp only[zay,zav,zak,zal] at hw<;>simp only[h1,i0,l0,i1,l1,i2,l2,h2,h3,hw,zay,zav,qah,qaU,qav,qaH,qch,qco,qds,vwt,decide_true,zak,zal,qaa,cond_true,cond_false,qaj,zaa,qab,qan,qax,qay,qam,qa3,qbw,cnd,qcW,Tm.k_mk,Tm.ks_mk,qaC]
  |_=>simp only[Tm.k_mk] at hk;omega
 ·have e:qh3 t=none:=by unfold qh3;rw[if_neg hk]
  rw[e]
  refine RuC.of (cf:=cf78) (by kernel_rfl) (by kernel_rfl) (((qdx (vw x t) 8).and (qdf false 140 (fun l=>[.ptr l 0]) (fun _=>rfl) (C1 (vw x t).c) (fun l=>Stab.at l _) .z fun h=>nomatch h)).mono fun N ⟨h1,h3⟩ E s=>?_)
  have hw:=fun(s:ASt)=>h3 s.next E (qal s (.cells (vw x t).c)) (qaO _ _ _)
  refine⟨qal s (.cells (vw x t).c),(s78_eq _ _ _ _).trans ?_⟩
  unfold s78 s78_0
  simp only[h1,hw,hk,zai,if_false,qah,qaU,qav,qaH,qch,qco,qds,vwt,decide_false,qaa,cond_false,qaj,zaa,qab,qan,qax,qay,qa3,qbw,cnd,qcW,qaC,zaR,zaG]
end Go.AI.Tryz
namespace Go.AI.Tryz
def qob (t:Tm):Option Tm:=if t.k=8 then(match t.ks with|[c,a,b]=>if c.k=8 then(match c.ks with|[p,q,r]=>if qbJ q 0 2&&qbJ r 1 2 then some (.ite p b a) else none|_=>none) else none|_=>none) else none
theorem qvH (x:Sc)(c a b p q r:Tm):IC 144 (fun l=>[.ptr l.1 0,.ptr l.2 0]) (C2 [kv [p,q,r]] (vw x (.ite c a b)).c) (Tm.ite p b a).v:=by
 refine IC.of (cf:=cf144) (np:=2) (args':=fun l=>[.ptr l.1 0,.ptr l.2 0]) (by kernel_rfl) (by kernel_rfl) (fun _=>rfl) (fun _=>rfl) (fun _=>rfl) (fun l=>(Stab.at l.1 _).and (Stab.at l.2 _)) (fun lo=>qaM lo _) ((qvE 8 0 0 [p,b,a]).mono fun N h l E s hc=>⟨(Tm.ite p b a).v,s,(s144_eq _ _ _ _ _).trans ?_,qai _⟩)
 have h':=qn9 (E:=E) 8 0 0 [p,b,a] .full h s
 simp only[zar,zaB,zaK,Nat.reduceAdd] at h'
 obtain⟨i0,l0⟩:=qb8 (n:=N) (E:=E) (l:=[p,q,r]) (u:=p) rfl
 obtain⟨i1,l1⟩:=qdz (n:=N) (E:=E) (l:=[c,a,b]) (u:=a) rfl
 obtain⟨i2,l2⟩:=qn5 (n:=N) (E:=E) (l:=[c,a,b]) (u:=b) rfl
 have hc1:qar (qag CP N E).E s l.1=some [kv [p,q,r]]:=by rw[qa9];exact hc.1
 have hc2:qar (qag CP N E).E s l.2=some (vw x (.ite c a b)).c:=by rw[qa9];exact hc.2
 unfold s144
 simp only[ldP hc1,ldP hc2,qdb,zaK,i0,l0,i1,l1,i2,l2,qx5,h',qah,qaU,qav,qco,vwt,zaa,qab,qbD,Tm.ks_mk]
theorem qxB (x:Sc)(t:Tm)(g:Gd x t):RuC 79 x t (qob t):=by
 by_cases hk:t.k=8
 ·cases g.sh with
  |ite c a b=>
   have hsz:=g.sz (by simp[Tm.k]) (by simp[Tm.k])
   rw[qcA,zag] at hsz
   obtain⟨i0,l0⟩:True/\True:=⟨trivial,trivial⟩
   by_cases hc8:c.k=8
   ·have hc:=qdj hsz.2
    cases hc with
    |ite p q r=>
     have e:qob (.ite (.ite p q r) a b)=if qbJ q 0 2&&qbJ r 1 2 then some (.ite p b a) else none:=rfl
     rw[e]
     refine RuC.of (cf:=cf79) (by kernel_rfl) (by kernel_rfl) (((qdx (vw x (.ite (.ite p q r) a b)) 8).and ((qjx q 0 2).and ((qjx r 1 2).and (qdf (qbJ q 0 2&&qbJ r 1 2) 144 (fun l:Nat×Nat=>[.ptr l.1 0,.ptr l.2 0]) (fun _=>rfl) (C2 [kv [p,q,r]] (vw x (.ite (.ite p q r) a b)).c) (fun l=>(Stab.at l.1 _).and (Stab.at l.2 _)) _ fun h=>qvH x (.ite p q r) a b p q r)))).mono fun N ⟨h1,h2,h3,h4⟩ E s=>?_)
     obtain⟨i0,l0⟩:=qb8 (n:=N) (E:=E) (l:=[.ite p q r,a,b]) (u:=.ite p q r) rfl
     have f0:=fun s=>kf (n:=N) (E:=E) (l:=[.ite p q r,a,b]) (j:=0) (u:=.ite p q r) rfl s
     have f00:=fun s=>(f0 s).1
     have f04:=fun s=>(f0 s).2.2
     obtain⟨i1,l1⟩:=qdz (n:=N) (E:=E) (l:=[p,q,r]) (u:=q) rfl
     obtain⟨i2,l2⟩:=qn5 (n:=N) (E:=E) (l:=[p,q,r]) (u:=r) rfl
     let s4:=qal s (.cells (vw x (.ite (.ite p q r) a b)).c)
     have hw:=h4 (s4.next,s.next) E (qal s4 (.cells [kv [p,q,r]])) ⟨qaO _ _ _,qdA _ _ _ _⟩
     have hst:stH (qal s4 (.cells [.sl 0 [] .full])) (.ptr s4.next 0) [kv [p,q,r]]=some (qal s4 (.cells [kv [p,q,r]])):=qjv _ _ _ _ _ rfl rfl
     simp only[s4] at hw hst
     refine⟨qal s4 (.cells [kv [p,q,r]]),(s79_eq _ _ _ _).trans ?_⟩
     unfold s79 s79_1 s79_0
     clear e
     generalize qbJ q 0 2=qa at h2 hw⊢
     generalize qbJ r 1 2=qb at h3 hw⊢
     cases qa<;>cases qb<;>simp only[zay,zav] at hw<;>simp only[h1,i0,f00,f04,hst,i1,l1,i2,l2,h2,h3,hw,qdb,zay,zav,s4,qah,qaU,qav,qaH,qch,qco,qds,vwt,qad,qa1,decide_true,zak,qaa,cond_true,cond_false,qaj,zab,zaa,qab,qan,qax,qay,qam,qa3,qbw,cnd,qcW,qrF,Tm.k_mk,Tm.ks_mk,qaC]
    |_=>simp only[Tm.k_mk] at hc8;omega
   ·have e:qob (.ite c a b)=none:=by simp only[qob,Tm.k_mk,Tm.ks_mk,if_true,hc8,if_false]
    rw[e]
    refine RuC.of (cf:=cf79) (by kernel_rfl) (by kernel_rfl) (((qdx (vw x (.ite c a b)) 8).and nothing_c).mono fun N ⟨h1,h3⟩ E s=>?_)
    obtain⟨i0,l0⟩:=qb8 (n:=N) (E:=E) (l:=[c,a,b]) (u:=c) rfl
    have f00:=fun s=>(kf (n:=N) (E:=E) (l:=[c,a,b]) (j:=0) (u:=c) rfl s).1
    refine⟨qal s (.cells (vw x (.ite c a b)).c),(s79_eq _ _ _ _).trans ?_⟩
    unfold s79 s79_1
    simp only[h1,h3,i0,f00,hc8,qah,qaU,qav,qaH,qch,qco,qds,vwt,qad,qa1,decide_true,decide_false,zak,zal,qaa,cond_true,cond_false,qaj,zab,zaa,qab,qan,qax,qay,qam,qa3,cnd,qcW,Tm.k_mk,Tm.ks_mk,qaC,zaR,zaG]
  |_=>simp only[Tm.k_mk] at hk;omega
 ·have e:qob t=none:=by unfold qob;rw[if_neg hk]
  rw[e]
  refine RuC.of (cf:=cf79) (by kernel_rfl) (by kernel_rfl) (((qdx (vw x t) 8).and nothing_c).mono fun N ⟨h1,h3⟩ E s=>?_)
  refine⟨qal s (.cells (vw x t).c),(s79_eq _ _ _ _).trans ?_⟩
  unfold s79 s79_1
  simp only[h1,h3,hk,qah,qaU,qav,qaH,qch,qco,qds,vwt,decide_false,zal,qaa,cond_true,qaj,zaa,qab,qan,qax,qay,qam,qa3,cnd,qcW,qaC,zaR,zaG]
def qh4 (x:Sc)(t:Tm):Option Tm:=if t.k=8 then(match t.ks with|[c,a,b]=>if qbJ a 1 2&&(qbJ b 0 2&&(!qaI c&&decide ((szF x c).1=2))) then some c else none|_=>none) else none
theorem qvI (x:Sc)(t:Tm)(g:Gd x t):RuC 80 x t (qh4 x t):=by
 by_cases hk:t.k=8
 ·cases g.sh with
  |ite c a b=>
   have e:qh4 x (.ite c a b)=if qbJ a 1 2&&(qbJ b 0 2&&(!qaI c&&decide ((szF x c).1=2))) then some c else none:=rfl
   rw[e]
   have hsz:=g.sz (by simp[Tm.k]) (by simp[Tm.k])
   rw[qcA,zag] at hsz
   have hlt:c.size<(Tm.ite c a b).size:=qa5 (by simp[Tm.ks])
   refine RuC.of (cf:=cf80) (by kernel_rfl) (by kernel_rfl) (((qdx (vw x (.ite c a b)) 8).and ((qbY c).and ((qjx a 1 2).and ((qjx b 0 2).and ((qdt (qbJ a 1 2&&(qbJ b 0 2&&(!qaI c&&decide ((szF x c).1=2)))) 133 (vw x (.ite c a b)) c fun _=>qfZ _ c rfl).and ((qpM x (.ite c a b) c 0 rfl g.b (fun h=>nomatch h)).and (qfY _ c x (zan _) (qm4 g.b hlt) hsz.2))))))).mono fun N ⟨h1,h2,ha,hb,h3,h4,h5⟩ E s=>?_)
   obtain⟨i0,l0⟩:=qb8 (n:=N) (E:=E) (l:=[c,a,b]) (u:=c) rfl
   obtain⟨i1,l1⟩:=qdz (n:=N) (E:=E) (l:=[c,a,b]) (u:=a) rfl
   obtain⟨i2,l2⟩:=qn5 (n:=N) (E:=E) (l:=[c,a,b]) (u:=b) rfl
   have h4':∀E s,cl (qag CP N E) 132 [(vw x (.ite c a b)).v,i64 0] s=some ((vw x c).v,s):=h4
   refine⟨s,(s80_eq _ _ _ _).trans ?_⟩
   unfold s80 s80_0
   clear e
   generalize qaI c=qa at h2 h3⊢
   generalize qbJ a 1 2=q1 at ha h3⊢
   generalize qbJ b 0 2=q2 at hb h3⊢
   cases q1<;>cases q2<;>cases qa<;>simp only[zak,zal,zay,zav] at h3<;>simp only[h1,i0,l0,i1,l1,i2,l2,ha,hb,h2,h3,h4',h5,ql0,zay,zav,qah,qaU,qav,qaH,qch,qco,vwt,qad,qaf,decide_true,zak,zal,qaa,cond_true,cond_false,qaj,zab,zaa,qab,qan,qax,qay,qam,Tm.k_mk,Tm.ks_mk,qaC]
  |_=>simp only[Tm.k_mk] at hk;omega
 ·have e:qh4 x t=none:=by unfold qh4;rw[if_neg hk]
  rw[e]
  refine RuC.of (cf:=cf80) (by kernel_rfl) (by kernel_rfl) (((qdx (vw x t) 8).and (qdt false 133 (vw x t) .z fun h=>nomatch h)).mono fun N ⟨h1,h3⟩ E s=>?_)
  refine⟨s,(s80_eq _ _ _ _).trans ?_⟩
  unfold s80 s80_0
  simp only[h1,h3,ql0,hk,zai,if_false,qah,qaU,qav,qaH,qch,qco,vwt,decide_false,qaa,cond_false,qaj,zaa,qab,qan,qax,qay,qaC,zaR,zaG]
def qh5 (t:Tm):Option Tm:=if t.k=7 then(match t.ks with|[a,b]=>if qaI a then some b else none|_=>none) else none
theorem qvJ (x:Sc)(t:Tm)(g:Gd x t):RuC 81 x t (qh5 t):=by
 by_cases hk:t.k=7
 ·cases g.sh with
  |seq a b=>
   have e:qh5 (.seq a b)=if qaI a then some b else none:=rfl
   rw[e]
   refine RuC.of (cf:=cf81) (by kernel_rfl) (by kernel_rfl) (((qdx (vw x (.seq a b)) 7).and ((qbY a).and (qdt (qaI a) 145 (vw x (.seq a b)) b fun _=>qm6 _ b rfl))).mono fun N ⟨h1,h2,h3⟩ E s=>?_)
   obtain⟨i0,l0⟩:=qb8 (n:=N) (E:=E) (l:=[a,b]) (u:=a) rfl
   refine⟨s,(s81_eq _ _ _ _).trans ?_⟩
   unfold s81 s81_0
   clear e
   simp only[h1,i0,l0,h2,h3,ql0,qah,qaU,qav,qaH,qch,qco,vwt,decide_true,qaa,cond_true,qaj,zaa,qab,qan,qax,qay,Tm.k_mk,Tm.ks_mk,qaC]
  |_=>simp only[Tm.k_mk] at hk;omega
 ·have e:qh5 t=none:=by unfold qh5;rw[if_neg hk]
  rw[e]
  refine RuC.of (cf:=cf81) (by kernel_rfl) (by kernel_rfl) (((qdx (vw x t) 7).and (qdt false 145 (vw x t) .z fun h=>nomatch h)).mono fun N ⟨h1,h3⟩ E s=>?_)
  refine⟨s,(s81_eq _ _ _ _).trans ?_⟩
  unfold s81 s81_0
  simp only[h1,h3,ql0,hk,zai,if_false,qah,qaU,qav,qaH,qch,qco,vwt,decide_false,qaa,cond_false,qaj,zaa,qab,qan,qax,qay,qaC,zaR,zaG]
def qf0 (t:Tm):Option Tm:=if t.k=7 then(match t.ks with|[a,b]=>if a.k=7 then(match a.ks with|[p,q]=>some (.seq p (.seq q b))|_=>none) else none|_=>none) else none
theorem qvK (x:Sc)(t:Tm)(g:Gd x t):RuC 82 x t (qf0 t):=by
 by_cases hk:t.k=7
 ·cases g.sh with
  |seq a b=>
   have hsz:=g.sz (by simp[Tm.k]) (by simp[Tm.k])
   rw[qb2,zag,is2_iff] at hsz
   by_cases ha7:a.k=7
   ·have ha:=qdj (x:=x) (t:=a) (by rw[hsz.2])
    cases ha with
    |seq p q=>
     have e:qf0 (.seq (.seq p q) b)=some (.seq p (.seq q b)):=rfl
     rw[e]
     refine RuC.of (cf:=cf82) (by kernel_rfl) (by kernel_rfl) (((qdx (vw x (.seq (.seq p q) b)) 7).and ((qpP q b).and (qpP p (.seq q b)))).mono fun N ⟨h1,h2,h3⟩ E s=>?_)
     obtain⟨i0,l0⟩:=qb8 (n:=N) (E:=E) (l:=[.seq p q,b]) (u:=.seq p q) rfl
     obtain⟨i1,l1⟩:=qdz (n:=N) (E:=E) (l:=[.seq p q,b]) (u:=b) rfl
     have f0:=fun s=>kf (n:=N) (E:=E) (l:=[.seq p q,b]) (j:=0) (u:=.seq p q) rfl s
     have f00:=fun s=>(f0 s).1
     have f04:=fun s=>(f0 s).2.2
     obtain⟨j0,m0⟩:=qb8 (n:=N) (E:=E) (l:=[p,q]) (u:=p) rfl
     obtain⟨j1,m1⟩:=qdz (n:=N) (E:=E) (l:=[p,q]) (u:=q) rfl
     refine⟨s,(s82_eq _ _ _ _).trans ?_⟩
     unfold s82 s82_0
     simp only[h1,i0,f00,f04,j0,m0,j1,m1,i1,l1,h2,h3,qah,qaU,qav,qaH,qch,qco,vwt,qad,qa1,decide_true,zak,qaa,cond_true,cond_false,qaj,zab,zaa,qab,qam,Tm.k_mk,Tm.ks_mk,qaC,zaE,zbj]
    |_=>simp only[Tm.k_mk] at ha7;omega
   ·have e:qf0 (.seq a b)=none:=by simp only[qf0,Tm.k_mk,Tm.ks_mk,if_true,ha7,if_false]
    rw[e]
    refine RuC.of (cf:=cf82) (by kernel_rfl) (by kernel_rfl) (((qdx (vw x (.seq a b)) 7).and nothing_c).mono fun N ⟨h1,h3⟩ E s=>?_)
    obtain⟨i0,l0⟩:=qb8 (n:=N) (E:=E) (l:=[a,b]) (u:=a) rfl
    have f00:=fun s=>(kf (n:=N) (E:=E) (l:=[a,b]) (j:=0) (u:=a) rfl s).1
    refine⟨s,(s82_eq _ _ _ _).trans ?_⟩
    unfold s82 s82_0
    simp only[h1,h3,i0,f00,ha7,qah,qaU,qav,qaH,qch,qco,vwt,qad,qa1,decide_true,decide_false,zak,zal,qaa,cond_true,cond_false,qaj,zab,zaa,qab,qan,qax,qay,qam,Tm.k_mk,Tm.ks_mk,qaC,zaR,zaG]
  |_=>simp only[Tm.k_mk] at hk;omega
 ·have e:qf0 t=none:=by unfold qf0;rw[if_neg hk]
  rw[e]
  refine RuC.of (cf:=cf82) (by kernel_rfl) (by kernel_rfl) (((qdx (vw x t) 7).and nothing_c).mono fun N ⟨h1,h3⟩ E s=>?_)
  refine⟨s,(s82_eq _ _ _ _).trans ?_⟩
  unfold s82 s82_0
  simp only[h1,h3,hk,qah,qaU,qav,qaH,qch,qco,vwt,decide_false,zal,qaa,cond_true,qaj,zaa,qab,qan,qax,qay,qam,qaC,zaR,zaG]
def qf1 (x:Sc)(t:Tm):Option Tm:=if t.k=7 then(match t.ks with|[a,b]=>if a.k=12\/a.k=14 then(if !decide (b=.num 0 (szF x t).1) then some (.seq a (.num 0 (szF x t).1)) else none) else none|_=>none) else none
theorem qtL (x:Sc)(a b r:Tm):IC 146 (fun l=>[.ptr l.1 0,.ptr l.2 0]) (C2 (vw x (.seq a b)).c r.c) (Tm.seq a r).v:=by
 refine IC.of (cf:=cf146) (np:=2) (args':=fun l=>[.ptr l.1 0,.ptr l.2 0]) (by kernel_rfl) (by kernel_rfl) (fun _=>rfl) (fun _=>rfl) (fun _=>rfl) (fun l=>(Stab.at l.1 _).and (Stab.at l.2 _)) (fun lo=>qaM lo _) ((qpP a r).mono fun N h l E s hc=>⟨(Tm.seq a r).v,s,(s146_eq _ _ _ _ _).trans ?_,qai _⟩)
 obtain⟨i0,l0⟩:=qb8 (n:=N) (E:=E) (l:=[a,b]) (u:=a) rfl
 have hc1:qar (qag CP N E).E s l.1=some (vw x (.seq a b)).c:=by rw[qa9];exact hc.1
 have hc2:qar (qag CP N E).E s l.2=some r.c:=by rw[qa9];exact hc.2
 unfold s146
 simp only[ldP hc1,ldP hc2,zaK,i0,l0,h,qah,qaU,qav,qco,vwt,zaa,qab,qbD,Tm.ks_mk]
theorem qsF (x:Sc)(t:Tm)(g:Gd x t)(hz:(Tm.num 0 (szF x t).1).Ok):RuC 83 x t (qf1 x t):=by
 by_cases hk:t.k=7
 ·cases g.sh with
  |seq a b=>
   have hsz:=g.sz (by simp[Tm.k]) (by simp[Tm.k])
   have ob:=g.ok.kids b (by simp[Tm.ks])
   by_cases ha:a.k=12\/a.k=14
   ·have e:qf1 x (.seq a b)=if !decide (b=.num 0 (szF x (.seq a b)).1) then some (.seq a (.num 0 (szF x (.seq a b)).1)) else none:=by simp only[qf1,Tm.k_mk,Tm.ks_mk,if_true,ha]
    rw[e]
    clear e
    generalize hr:Tm.num 0 (szF x (.seq a b)).1=r at hz⊢
    refine RuC.of (cf:=cf83) (by kernel_rfl) (by kernel_rfl) (((qdx (vw x (.seq a b)) 7).and ((qfY _ _ x (zan _) g.b hsz).and ((qpO 0 (szF x (.seq a b)).1).and ((qjy b r ob hz).and (qdf (!decide (b=r)) 146 (fun l:Nat×Nat=>[.ptr l.1 0,.ptr l.2 0]) (fun _=>rfl) (C2 (vw x (.seq a b)).c r.c) (fun l=>(Stab.at l.1 _).and (Stab.at l.2 _)) _ fun h=>qtL x a b r))))).mono fun N ⟨h1,h2,h3,h5,h4⟩ E s=>?_)
    rw[hr] at h3
    obtain⟨i0,l0⟩:=qb8 (n:=N) (E:=E) (l:=[a,b]) (u:=a) rfl
    obtain⟨i1,l1⟩:=qdz (n:=N) (E:=E) (l:=[a,b]) (u:=b) rfl
    have f00:=fun s=>(kf (n:=N) (E:=E) (l:=[a,b]) (j:=0) (u:=a) rfl s).1
    let s4:=qal s (.cells (vw x (.seq a b)).c)
    have hw:=h4 (s.next,s4.next) E (qal s4 (.cells r.c)) ⟨qdA _ _ _ _,qaO _ _ _⟩
    have hst:stH (qal s4 (.cells [u8 0,i64 0,i64 0,i64 0,.sl 0 [] .full])) (.ptr s4.next 0) r.c=some (qal s4 (.cells r.c)):=qjv _ _ _ _ _ rfl rfl
    simp only[s4] at hw hst
    refine⟨qal s4 (.cells r.c),(s83_eq _ _ _ _).trans ?_⟩
    unfold s83 s83_0
    rcases ha with ha|ha
    ·simp only[h1,i0,f00,ha,h2,h3,hst,i1,l1,h5,hw,s4,qah,qaU,qav,qaH,qch,qco,qds,vwt,qad,qa1,zaj,decide_true,decide_false,zak,zal,qaa,cond_true,cond_false,qaj,zab,zaa,qab,qan,qax,qay,qam,qa3,qbw,cnd,qcW,qsC,Tm.k_mk,Tm.ks_mk,qaC]
    ·simp only[h1,i0,f00,ha,h2,h3,hst,i1,l1,h5,hw,s4,qah,qaU,qav,qaH,qch,qco,qds,vwt,qad,qa1,zaj,decide_true,decide_false,zak,zal,qaa,cond_true,cond_false,qaj,zab,zaa,qab,qan,qax,qay,qam,qa3,qbw,cnd,qcW,qsC,Tm.k_mk,Tm.ks_mk,qaC]
   ·have e:qf1 x (.seq a b)=none:=by simp only[qf1,Tm.k_mk,Tm.ks_mk,if_true,ha,if_false]
    rw[e]
    refine RuC.of (cf:=cf83) (by kernel_rfl) (by kernel_rfl) (((qdx (vw x (.seq a b)) 7).and nothing_c).mono fun N ⟨h1,h3⟩ E s=>?_)
    obtain⟨i0,l0⟩:=qb8 (n:=N) (E:=E) (l:=[a,b]) (u:=a) rfl
    have f00:=fun s=>(kf (n:=N) (E:=E) (l:=[a,b]) (j:=0) (u:=a) rfl s).1
    have k1:¬a.k=12:=fun h=>ha (.inl h)
    have k2:¬a.k=14:=fun h=>ha (.inr h)
    refine⟨qal s (.cells (vw x (.seq a b)).c),(s83_eq _ _ _ _).trans ?_⟩
    unfold s83 s83_0
    simp only[h1,h3,i0,f00,k1,k2,qah,qaU,qav,qaH,qch,qco,qds,vwt,qad,qa1,decide_true,decide_false,zak,zal,qaa,cond_true,cond_false,qaj,zab,zaa,qab,qan,qax,qay,qam,qa3,qbw,cnd,qcW,Tm.k_mk,Tm.ks_mk,qaC,zaR,zaG]
  |_=>simp only[Tm.k_mk] at hk;omega
 ·have e:qf1 x t=none:=by unfold qf1;rw[if_neg hk]
  rw[e]
  refine RuC.of (cf:=cf83) (by kernel_rfl) (by kernel_rfl) (((qdx (vw x t) 7).and nothing_c).mono fun N ⟨h1,h3⟩ E s=>?_)
  refine⟨qal s (.cells (vw x t).c),(s83_eq _ _ _ _).trans ?_⟩
  unfold s83 s83_0
  simp only[h1,h3,hk,qah,qaU,qav,qaH,qch,qco,qds,vwt,decide_false,zal,qaa,cond_true,cond_false,qaj,zaa,qab,qan,qax,qay,qam,qa3,qbw,cnd,qcW,qaC,zaR,zaG]
def qe0 (t:Tm):Option Tm:=if t.k=9 then(match t.ks with|[c,b]=>if qaI c&&decide (c.n=0) then some (.num 0 1) else none|_=>none) else none
theorem loop1_c:PC CP 147 [] ((Tm.num 0 1).v):=by
 refine PC.of2 (cf:=cf147) (np:=0) (args':=[]) (by kernel_rfl) (by kernel_rfl) rfl (by first|rfl|(simp only[zap,qak,qb9];rfl)) (by first|rfl|(simp only[zam,qai,qca];rfl)) (fun lo=>by first|rfl|exact qaM lo _|exact qaW lo _|exact qcf lo _ _) (Ev.mono (qpO 0 1) fun N h E s=>⟨(Tm.num 0 1).v,s,(s147_eq _ _ _).trans ?_,(by first|rfl|exact qai _|exact qaP _|exact qb5 _ _)⟩)
 unfold s147
 simp only[h,qah,qaU,qav,zaa,qab]
theorem qpR (b:Bool):PC CP 126 [bl b,.p (.func 147 [] [])] (qc8 (if b then some (Tm.num 0 1) else none)):=
 (qvF b 147 (fun _ _=>True) Stab.true (.num 0 1) fun _=>(loop1_c.and (Ev.ge 1)).mono fun n ⟨h,hn⟩ E s _=>by rw[qgk CP hn];exact h E s).mono fun n h E s=>h E s trivial
theorem qtM (x:Sc)(t:Tm)(g:Gd x t):RuC 84 x t (qe0 t):=by
 by_cases hk:t.k=9
 ·cases g.sh with
  |whl c b=>
   have e:qe0 (.whl c b)=if qaI c&&decide (c.n=0) then some (.num 0 1) else none:=rfl
   rw[e]
   refine RuC.of (cf:=cf84) (by kernel_rfl) (by kernel_rfl) (((qdx (vw x (.whl c b)) 9).and ((qbY c).and (qpR (qaI c&&decide (c.n=0))))).mono fun N ⟨h1,h2,h3⟩ E s=>?_)
   obtain⟨i0,l0⟩:=qb8 (n:=N) (E:=E) (l:=[c,b]) (u:=c) rfl
   have f01:=fun s=>(kf (n:=N) (E:=E) (l:=[c,b]) (j:=0) (u:=c) rfl s).2.1
   refine⟨s,(s84_eq _ _ _ _).trans ?_⟩
   unfold s84 s84_0
   clear e
   generalize qaI c=qa at h2 h3⊢
   cases qa<;>simp only[zay,zav] at h3<;>simp only[h1,i0,l0,f01,h2,h3,zay,zav,qah,qaU,qav,qaH,qch,qco,vwt,qad,qaf,decide_true,qaa,cond_true,cond_false,qaj,zab,zaa,qab,qan,qax,qay,Tm.k_mk,Tm.ks_mk,qaC]
  |_=>simp only[Tm.k_mk] at hk;omega
 ·have e:qe0 t=none:=by unfold qe0;rw[if_neg hk]
  rw[e]
  refine RuC.of (cf:=cf84) (by kernel_rfl) (by kernel_rfl) (((qdx (vw x t) 9).and (qpR false)).mono fun N ⟨h1,h3⟩ E s=>?_)
  refine⟨s,(s84_eq _ _ _ _).trans ?_⟩
  unfold s84 s84_0
  simp only[h1,h3,hk,zai,if_false,qah,qaU,qav,qaH,qch,qco,vwt,decide_false,qaa,cond_false,qaj,zaa,qab,qan,qax,qay,qaC,zaR,zaG]
def qh6 (t:Tm):Option Tm:=if t.k=11 then(match t.ks with|[u,w]=>if decide (u.k=12)&&decide (u.n=0) then some w else none|_=>none) else none
theorem qvL (x:Sc)(t:Tm)(g:Gd x t):RuC 90 x t (qh6 t):=by
 by_cases hk:t.k=11
 ·cases g.sh with
  |lbl u w=>
   have e:qh6 (.lbl u w)=if decide (u.k=12)&&decide (u.n=0) then some w else none:=rfl
   rw[e]
   refine RuC.of (cf:=cf90) (by kernel_rfl) (by kernel_rfl) (((qdx (vw x (.lbl u w)) 11).and (qdt (decide (u.k=12)&&decide (u.n=0)) 145 (vw x (.lbl u w)) w fun _=>qm6 _ w rfl)).mono fun N ⟨h1,h3⟩ E s=>?_)
   obtain⟨i0,l0⟩:=qb8 (n:=N) (E:=E) (l:=[u,w]) (u:=u) rfl
   have f00:=fun s=>(kf (n:=N) (E:=E) (l:=[u,w]) (j:=0) (u:=u) rfl s).1
   have f01:=fun s=>(kf (n:=N) (E:=E) (l:=[u,w]) (j:=0) (u:=u) rfl s).2.1
   refine⟨s,(s90_eq _ _ _ _).trans ?_⟩
   unfold s90 s90_0
   clear e
   by_cases hu:u.k=12<;>simp only[hu,decide_true,decide_false,zay,zav] at h3<;>simp only[h1,i0,f00,f01,hu,h3,ql0,zay,zav,qah,qaU,qav,qaH,qch,qco,vwt,qad,qaf,decide_true,decide_false,qaa,cond_true,cond_false,qaj,zab,zaa,qab,qan,qax,qay,Tm.k_mk,Tm.ks_mk,qaC]
  |_=>simp only[Tm.k_mk] at hk;omega
 ·have e:qh6 t=none:=by unfold qh6;rw[if_neg hk]
  rw[e]
  refine RuC.of (cf:=cf90) (by kernel_rfl) (by kernel_rfl) (((qdx (vw x t) 11).and (qdt false 145 (vw x t) .z fun h=>nomatch h)).mono fun N ⟨h1,h3⟩ E s=>?_)
  refine⟨s,(s90_eq _ _ _ _).trans ?_⟩
  unfold s90 s90_0
  simp only[h1,h3,ql0,hk,zai,if_false,qah,qaU,qav,qaH,qch,qco,vwt,decide_false,qaa,cond_false,qaj,zaa,qab,qan,qax,qay,qaC,zaR,zaG]
def qdI (t:Tm):Option Tm:=if t.k=13 then(match t.ks with|[a,b]=>if decide (a=b) then some a else none|_=>none) else none
theorem qrJ (x:Sc)(t:Tm)(g:Gd x t):RuC 92 x t (qdI t):=by
 by_cases hk:t.k=13
 ·cases g.sh with
  |cho a b=>
   have e:qdI (.cho a b)=if decide (a=b) then some a else none:=rfl
   rw[e]
   have oa:=g.ok.kids a (by simp[Tm.ks])
   have ob:=g.ok.kids b (by simp[Tm.ks])
   refine RuC.of (cf:=cf92) (by kernel_rfl) (by kernel_rfl) (((qdx (vw x (.cho a b)) 13).and ((qjy a b oa ob).and (qdt (decide (a=b)) 133 (vw x (.cho a b)) a fun _=>qfZ _ a rfl))).mono fun N ⟨h1,h2,h3⟩ E s=>?_)
   obtain⟨i0,l0⟩:=qb8 (n:=N) (E:=E) (l:=[a,b]) (u:=a) rfl
   obtain⟨i1,l1⟩:=qdz (n:=N) (E:=E) (l:=[a,b]) (u:=b) rfl
   refine⟨s,(s92_eq _ _ _ _).trans ?_⟩
   unfold s92 s92_0
   clear e
   simp only[h1,i0,l0,i1,l1,h2,h3,ql0,qah,qaU,qav,qaH,qch,qco,vwt,decide_true,qaa,cond_true,qaj,zaa,qab,qan,qax,qay,Tm.k_mk,Tm.ks_mk,qaC]
  |_=>simp only[Tm.k_mk] at hk;omega
 ·have e:qdI t=none:=by unfold qdI;rw[if_neg hk]
  rw[e]
  refine RuC.of (cf:=cf92) (by kernel_rfl) (by kernel_rfl) (((qdx (vw x t) 13).and (qdt false 133 (vw x t) .z fun h=>nomatch h)).mono fun N ⟨h1,h3⟩ E s=>?_)
  refine⟨s,(s92_eq _ _ _ _).trans ?_⟩
  unfold s92 s92_0
  simp only[h1,h3,ql0,hk,zai,if_false,qah,qaU,qav,qaH,qch,qco,vwt,decide_false,qaa,cond_false,qaj,zaa,qab,qan,qax,qay,qaC,zaR,zaG]
def qez (t:Tm):Option Tm:=if t.k=13 then(match t.ks with|[a,b]=>if a.k=14 then some b else if b.k=14 then some a else none|_=>none) else none
theorem qtN (x:Sc)(t:Tm)(g:Gd x t):RuC 93 x t (qez t):=by
 by_cases hk:t.k=13
 ·cases g.sh with
  |cho a b=>
   have e:qez (.cho a b)=if a.k=14 then some b else if decide (b.k=14) then some a else none:=by simp only[qez,Tm.k_mk,Tm.ks_mk,if_true,decide_eq_true_eq]
   rw[e]
   refine RuC.of (cf:=cf93) (by kernel_rfl) (by kernel_rfl) (((qdx (vw x (.cho a b)) 13).and (qdt (decide (b.k=14)) 133 (vw x (.cho a b)) a fun _=>qfZ _ a rfl)).mono fun N ⟨h1,h3⟩ E s=>?_)
   obtain⟨i0,l0⟩:=qb8 (n:=N) (E:=E) (l:=[a,b]) (u:=a) rfl
   obtain⟨i1,l1⟩:=qdz (n:=N) (E:=E) (l:=[a,b]) (u:=b) rfl
   have f00:=fun s=>(kf (n:=N) (E:=E) (l:=[a,b]) (j:=0) (u:=a) rfl s).1
   have f10:=fun s=>(kf (n:=N) (E:=E) (l:=[a,b]) (j:=1) (u:=b) rfl s).1
   refine⟨s,(s93_eq _ _ _ _).trans ?_⟩
   unfold s93
   clear e
   by_cases hu:a.k=14<;>simp only[h1,i0,i1,l1,f00,f10,hu,h3,ql0,if_true,if_false,qah,qaU,qav,qaH,qch,qco,vwt,qad,qaf,decide_true,decide_false,zak,qaa,cond_true,cond_false,zab,zaa,qab,qan,qax,qay,qam,Tm.k_mk,Tm.ks_mk,qaC,zaE,zbj]
  |_=>simp only[Tm.k_mk] at hk;omega
 ·have e:qez t=none:=by unfold qez;rw[if_neg hk]
  rw[e]
  refine RuC.of (cf:=cf93) (by kernel_rfl) (by kernel_rfl) (((qdx (vw x t) 13).and nothing_c).mono fun N ⟨h1,h3⟩ E s=>?_)
  refine⟨s,(s93_eq _ _ _ _).trans ?_⟩
  unfold s93
  simp only[h1,h3,hk,qah,qaU,qav,qaH,qch,qco,vwt,decide_false,zal,qaa,cond_true,zaa,qab,qan,qax,qay,qam,qaC,zaR,zaG]
def qdS (x:Sc)(t:Tm):Option Tm:=if t.k=7 then(match t.ks with|[p,q]=>if p.k=4 then(match p.ks with|[u]=>if decide (q.k=3)&&(decide (p.i=q.i)&&(decide (x.top<p.i)&&qaI u)) then some (.seq p u) else none|_=>none) else none|_=>none) else none
theorem qrK (i:Int)(u:Tm):IC 154 (fun l=>[.ptr l 0]) (C1 (Tm.put i u).c) (Tm.seq (.put i u) u).v:=by
 refine IC.of (cf:=cf154) (np:=1) (args':=fun l=>[.ptr l 0]) (by kernel_rfl) (by kernel_rfl) (fun _=>rfl) (fun _=>rfl) (fun _=>rfl) (fun l=>Stab.at l _) (fun lo=>qaM lo _) ((qpP (.put i u) u).mono fun N h l E s hc=>⟨(Tm.seq (.put i u) u).v,s,(s154_eq _ _ _ _).trans ?_,qai _⟩)
 obtain⟨i0,l0⟩:=qb8 (n:=N) (E:=E) (l:=[u]) (u:=u) rfl
 have hc':qar (qag CP N E).E s l=some (Tm.put i u).c:=by rw[qa9];exact hc
 unfold s154
 simp only[ldP hc',zaK,i0,l0,h,qah,qaU,qbj,qav,zaa,qab,qbD,Tm.ks_mk]
theorem qaz (l:List Tm):qaT (some [kv l]) (some [kv l])=true:=by
 simp only[qaT,qdn,qfW,zat]
theorem qtO (x:Sc)(t:Tm)(g:Gd x t):RuC 88 x t (qdS x t):=by
 by_cases hk:t.k=7
 ·cases g.sh with
  |seq p q=>
   have hsz:=g.sz (by simp[Tm.k]) (by simp[Tm.k])
   rw[qb2,zag,is2_iff] at hsz
   have hcut:cut (vw x (.seq p q)).c 4 1=some [kv [p,q]]:=rfl
   by_cases hp4:p.k=4
   ·have hp:=qdj (x:=x) (t:=p) (by rw[hsz.2])
    cases hp with
    |put i u=>
     have e:qdS x (.seq (.put i u) q)=if decide (q.k=3)&&(decide (i=q.i)&&(decide (x.top<i)&&qaI u)) then some (.seq (.put i u) u) else none:=rfl
     rw[e]
     refine RuC.of (cf:=cf88) (by kernel_rfl) (by kernel_rfl) (((qdx (vw x (.seq (.put i u) q)) 7).and ((qbY u).and (qdf (decide (q.k=3)&&(decide (i=q.i)&&(decide (x.top<i)&&qaI u))) 154 (fun l=>[.ptr l 0]) (fun _=>rfl) (C1 (Tm.put i u).c) (fun l=>Stab.at l _) _ fun h=>qrK i u))).mono fun N ⟨h1,h2,h4⟩ E s=>?_)
     obtain⟨i0,l0⟩:=qb8 (n:=N) (E:=E) (l:=[.put i u,q]) (u:=.put i u) rfl
     obtain⟨i1,l1⟩:=qdz (n:=N) (E:=E) (l:=[.put i u,q]) (u:=q) rfl
     obtain⟨j0,m0⟩:=qb8 (n:=N) (E:=E) (l:=[u]) (u:=u) rfl
     have hw:=h4 s.next E (qal s (.cells (Tm.put i u).c)) (qaO _ _ _)
     have hst:stH (qal s (.cells [u8 0,i64 0,i64 0,i64 0,.sl 0 [] .full])) (.ptr s.next 0) (Tm.put i u).c=some (qal s (.cells (Tm.put i u).c)):=qjv _ _ _ _ _ rfl rfl
     refine⟨qal s (.cells (Tm.put i u).c),(s88_eq _ _ _ _).trans ?_⟩
     unfold s88 s88_0
     clear e
     generalize qaI u=qa at h2 hw⊢
     by_cases q3:q.k=3
     ·by_cases qi:i=q.i
      ·by_cases qt:x.top<i
       ·simp only[q3,qt,decide_true,zay,←qi] at hw
        simp only[h1,i0,l0,i1,l1,hcut,qaz,zat,hst,j0,m0,q3,<-qi,qt,h2,hw,zay,qah,qaU,qbc,qcL,qbj,qav,qaH,qch,qco,qpK,vwt,quM,qad,qaf,qaG,decide_true,zak,qaa,cond_true,cond_false,qaj,zab,zaa,qab,qan,qax,qay,qam,qbw,cnd,qcW,Tm.k_mk,Tm.i_mk,Tm.ks_mk,qaC]
       ·simp only[q3,qt,decide_true,decide_false,zay,zav,←qi] at hw
        simp only[h1,i0,l0,i1,l1,hcut,qaz,zat,hst,q3,<-qi,qt,hw,zay,zav,zai,if_false,qah,qaU,qbc,qcL,qbj,qav,qaH,qch,qco,qpK,vwt,quM,qad,qaf,qaG,decide_true,decide_false,zak,qaa,cond_true,cond_false,qaj,zab,zaa,qab,qan,qax,qay,qam,qbw,cnd,qcW,Tm.k_mk,Tm.i_mk,Tm.ks_mk,qaC,zaR,zaG]
      ·simp only[q3,qi,decide_true,decide_false,zay,zav] at hw
       simp only[h1,i0,l0,i1,l1,hcut,qaz,zat,hst,q3,qi,hw,zay,zav,zai,if_false,qah,qaU,qbc,qcL,qbj,qav,qaH,qch,qco,qpK,vwt,quM,qad,qaf,qaG,decide_true,decide_false,zak,qaa,cond_true,cond_false,qaj,zab,zaa,qab,qan,qax,qay,qam,qbw,cnd,qcW,Tm.k_mk,Tm.i_mk,Tm.ks_mk,qaC,zaR,zaG]
     ·simp only[q3,decide_false,zav] at hw
      simp only[h1,i0,l0,i1,l1,hcut,qaz,zat,hst,q3,hw,zav,zai,if_false,qah,qaU,qbc,qcL,qav,qaH,qch,qco,qpK,vwt,quM,qad,qaf,decide_true,decide_false,zak,qaa,cond_true,cond_false,qaj,zab,zaa,qab,qan,qax,qay,qam,qbw,cnd,qcW,Tm.k_mk,Tm.ks_mk,qaC,zaR,zaG]
    |_=>simp only[Tm.k_mk] at hp4;omega
   ·have e:qdS x (.seq p q)=none:=by simp only[qdS,Tm.k_mk,Tm.ks_mk,if_true,hp4,if_false]
    rw[e]
    refine RuC.of (cf:=cf88) (by kernel_rfl) (by kernel_rfl) (((qdx (vw x (.seq p q)) 7).and (qdf false 154 (fun l=>[.ptr l 0]) (fun _=>rfl) (C1 p.c) (fun l=>Stab.at l _) .z fun h=>nomatch h)).mono fun N ⟨h1,h4⟩ E s=>?_)
    obtain⟨i0,l0⟩:=qb8 (n:=N) (E:=E) (l:=[p,q]) (u:=p) rfl
    obtain⟨i1,l1⟩:=qdz (n:=N) (E:=E) (l:=[p,q]) (u:=q) rfl
    have hw:=h4 s.next E (qal s (.cells p.c)) (qaO _ _ _)
    have hst:stH (qal s (.cells [u8 0,i64 0,i64 0,i64 0,.sl 0 [] .full])) (.ptr s.next 0) p.c=some (qal s (.cells p.c)):=qjv _ _ _ _ _ rfl rfl
    refine⟨qal s (.cells p.c),(s88_eq _ _ _ _).trans ?_⟩
    unfold s88 s88_0
    simp only[h1,i0,l0,i1,l1,hcut,qaz,zat,hst,hp4,hw,zai,if_false,qah,qaU,qbc,qcL,qbj,qav,qaH,qch,qco,qpK,vwt,quM,qad,qaf,qaG,decide_true,decide_false,zak,qaa,cond_false,qaj,zab,zaa,qab,qan,qax,qay,qam,qbw,cnd,qcW,Tm.k_mk,Tm.ks_mk,qaC,zaR,zaG]
  |_=>simp only[Tm.k_mk] at hk;omega
 ·have e:qdS x t=none:=by unfold qdS;rw[if_neg hk]
  rw[e]
  refine RuC.of (cf:=cf88) (by kernel_rfl) (by kernel_rfl) (((qdx (vw x t) 7).and nothing_c).mono fun N ⟨h1,h3⟩ E s=>?_)
  refine⟨s,(s88_eq _ _ _ _).trans ?_⟩
  unfold s88 s88_0
  simp only[h1,h3,hk,qah,qaU,qav,qaH,qch,qco,qpK,vwt,quM,decide_false,zal,qaa,cond_true,qaj,zaa,qab,qan,qax,qay,qam,qbw,cnd,qaC,zaR,zaG]
end Go.AI.Tryz
namespace Go.AI
def TF (s s':ASt):Prop:=s.ntok<=s'.ntok/\∀t,t<s.ntok->qas s'.toks t=qas s.toks t
theorem TF.refl (s:ASt):TF s s:=⟨zan _,fun _ _=>rfl⟩
theorem TF.trans {a b c:ASt}(h:TF a b)(k:TF b c):TF a c:=⟨zbf h.1 k.1,fun t ht=>(k.2 t (za2 ht h.1)).trans (h.2 t ht)⟩
theorem qhu {α:Type}(x:α):∀{l:List (Nat×α)} {n:Nat} {y:α},qas l n=some y->∃l',qaK l n x=some l'
 |[],n,y,h=>by cases h
 |(k,v)::r,n,y,h=>by
  simp only[qas,qaK] at h⊢
  cases hk:Nat.beq k n with
  |true=>exact⟨_,rfl⟩
  |false=>
   rw[hk] at h
   obtain⟨l',e⟩:=qhu x (l:=r) h
   exact⟨(k,v)::l',by rw[e];rfl⟩
theorem qm7 (e:Env){sz b n t:Nat}{cs new:List zP}{y:zA}{s:ASt}(ht:qas s.toks t=some (n,sz))(hy:qdE y=some (1,new))(hl:new.length=sz)(hb:(n+1)*b<=140737488355328):
  ∃ts,ap e sz b (.sl n cs (.own t)) y s=some (.sl (n+1) (cs++new) (.own t),{s with toks:=ts})/\∀m,qas ts m=if m=t then some (n+1,sz) else qas s.toks m:=by
 obtain⟨ts,hts⟩:=qhu (n+1,sz) ht
 refine⟨ts,?_,qcF hts⟩
 unfold ap stV
 have h1:Nat.ble ((n+1)*b) 140737488355328=true:=ble_iff.2 hb
 have h2:Nat.beq new.length (1*sz)=true:=qaE (by omega)
 have h4:(Nat.beq n n&&Nat.beq sz sz)=true:=by rw[qaE rfl,qaE rfl];rfl
 simp only[qaJ,Arg.ev,hy,zaa,h1,h2,zat,cond_true,ht,h4,hts,zab]
 rfl
theorem qxC (e:Env){sz b m:Nat}(s:ASt)(hb:m*b<=140737488355328):mk e sz b (i64 (.ofNat m)) s=some (.sl 0 [] (.own s.ntok),{s with ntok:=s.ntok+1,toks:=(s.ntok,0,sz)::s.toks}):=by
 unfold mk stV
 have h1:Nat.ble (m*b) 140737488355328=true:=ble_iff.2 hb
 simp only[qaJ,Arg.ev,qhN,zaa,h1,cond_true]
def Tm.with (t:Tm)(ks:List Tm):Tm:=.mk t.k t.n t.m t.i ks
section
variable {σ:Type}
def qfJ (f:σ->Tm->Int->σ×Tm)(lab:Bool)(l:Int):Nat->σ->List Tm->σ×List Tm
 |_,x,[]=>(x,[])
 |i,x,k::r=>((qfJ f lab l (i+1) (f x k (if lab&&decide (i=0) then l+1 else l)).1 r).1,(f x k (if lab&&decide (i=0) then l+1 else l)).2::(qfJ f lab l (i+1) (f x k (if lab&&decide (i=0) then l+1 else l)).1 r).2)
def qc9 (by_:σ->Tm->Int->σ×(Tm×Bool)):Nat->σ->Tm->Int->σ×Tm
 |0,x,t,_=>(x,t)
 |d+1,x,t,l=>
  if(by_ x t l).2.2 then((qfJ (qc9 by_ d) (decide ((by_ x t l).2.1.k=11)) l 0 (by_ x t l).1 (by_ x t l).2.1.ks).1,(by_ x t l).2.1.with (qfJ (qc9 by_ d) (decide ((by_ x t l).2.1.k=11)) l 0 (by_ x t l).1 (by_ x t l).2.1.ks).2)
  else((by_ x t l).1,(by_ x t l).2.1)
end
end Go.AI
namespace Go.AI.Tryz
section
variable {σ:Type} (R:σ->qaR->ASt->Prop) (by_:σ->Tm->Int->σ×(Tm×Bool)) (fv:zA) (Ad:Tm->Prop)
def ByC (n d:Nat):Prop:=∀(x:σ) (E:qaR) (s:ASt) (t:Tm) (l:Int),t.size<=d->Ad t->0<=l->l+t.size<=1000000->R x E s->∃s',clv (qag CP n E) fv [t.v,i64 l] s=some (.tuple [(by_ x t l).2.1.v,bl (by_ x t l).2.2],s')/\R (by_ x t l).1 E s'/\TF s s'
def MapC (n d:Nat):Prop:=∀(x:σ) (E:qaR) (s:ASt) (t:Tm) (l:Int),t.size<=d->Ad t->0<=l->l+t.size<=1000000->R x E s->∃s',cl (qag CP n E) 108 [t.v,i64 l,fv] s=some ((qc9 by_ d x t l).2.v,s')/\R (qc9 by_ d x t l).1 E s'/\TF s s'
end
section
variable {σ κ:Type} {R:κ->σ->qaR->ASt->Prop} {by_:σ->Tm->Int->σ×(Tm×Bool)} {fv:κ->zA} {Ad:Tm->Prop}
theorem qd6 (hR:∀q x E s s',R q x E s->s'.heap=s.heap->s'.next=s.next->R q x E s')(ha:∀q,qbF (fv q)=true)(he:∀q,qaD (fv q)=fv q)
  (hk:∀x t l,Ad t->(by_ x t l).2.2=true->(by_ x t l).2.1.size<=t.size/\∀u∈(by_ x t l).2.1.ks,Ad u):
  ∀(d:Nat),(Ev fun n=>∀q,ByC (R q) by_ (fv q) Ad n d)->Ev fun n=>∀q,MapC (R q) by_ (fv q) Ad n d
 |0,_=>Ev.of fun n q x E s t l h=>by have:=Tm.size_pos t;omega
 |d+1,hby=>by
  have ih:=qd6 hR ha he hk d (hby.mono fun n h q x E s t l h1=>h q x E s t l (by omega))
  refine Ev.succ ((hby.and (ih.and (Ev.ge (d+3)))).mono fun n ⟨hb,hm,hn⟩ q x E s t l hsz hAd hl hls hr=>?_)
  suffices ∃r s',s108 (qag CP n E) n t.v (i64 l) (fv q) s=some (r,s')/\qaD r=(qc9 by_ (d+1) x t l).2.v/\R q (qc9 by_ (d+1) x t l).1 E s'/\TF s s' by
   obtain⟨r,s',e1,e2,e3,e4⟩:=this
   refine⟨s',?_,e3,e4⟩
   rw[qb4]
   exact qfy (cf:=cf108) (np:=3) (args':=[t.v,i64 l,fv q]) (v:=r) (by kernel_rfl) (by kernel_rfl) rfl (by simp only[zap,qak,ha q];rfl) (by simp only[zam,qai,he q];rfl) ((s108_eq _ _ _ _ _ _).trans e1) e2 (by rw[Tm.v_eq];rfl)
  obtain⟨s7,b1,b2,b3⟩:=hb q x E s t l hsz hAd hl hls hr
  unfold qc9
  have hkk:=hk x t l hAd
  generalize by_ x t l=qq at b1 b2 hkk⊢
  obtain⟨x',t',go⟩:=qq
  unfold s108
  cases go with
  |false=>
   simp only[b1,zai,if_false,qah,qaU,qav,qpJ,zal,qaa,cond_true,zaa,qab,qan,qax,qay,qam]
   exact⟨_,s7,rfl,qai _,b2,b3⟩
  |true=>
   obtain⟨hsz',hkAd⟩:=hkk rfl
   simp only at hsz' hkAd b1 b2
   have hlen:=Tm.len_le_size t'.ks
   have hts:=Tm.size_ks t'
   have hmk:=qxC (qag CP n E) (sz:=5) (b:=56) (m:=t'.ks.length) s7 (by omega)
   simp only[b1,if_true,hmk,qah,qaU,qbj,qpJ,zak,qaa,cond_false,zaa,qab,qan,qax,qay,qam,qbq]
   unfold s108_2
   generalize hF:(fun(h30:zA->zA->Nat->List zA->List zA->List zA->ASt->Res) (x23 x24:zA) (g25:Nat) (c26 c27 c28:List zA) (s29:ASt)=>_)=F
   generalize hlab:decide (t'.k=11)=lab
   have key:∀(rest done:List Tm) (k j g:Nat) (c:List zA) (y:σ) (sj:ASt),done++rest=done++t'.ks.drop j->done.length=j->j+rest.length=t'.ks.length->rest.length<k->R q y E sj->TF s7 sj->s7.ntok<sj.ntok->qas sj.toks s7.ntok=some (j,5)->
     ∃r s',lp (fun _ _ _ _ _ _ _=>none) F k (.sl j (Tm.cellsL done) (.own s7.ntok)) (i64 (.ofNat j)) g t'.c [u8 0,i64 0,i64 0,i64 0,.sl 0 [] .full] c sj=some (r,s')/\qaD r=(t'.with (done++(qfJ (qc9 by_ d) lab l j y rest).2)).v/\R q (qfJ (qc9 by_ d) lab l j y rest).1 E s'/\TF s7 s':=by
    intro rest
    induction rest with
    |nil=>
     intro done k j g c y sj h1 h2 h3 hk hr htf hlt hta
     obtain⟨k,rfl⟩:∃m,k=m+1:=⟨k-1,by simp only[zaB] at hk;omega⟩
     rw[qa6]
     generalize lp _ F k=L
     subst hF
     simp only[zaB,zbk] at h3
     have hnl:¬(Int.ofNat j<Int.ofNat t'.ks.length):=fun h=>by have:=of_lt.1 h;omega
     have hcv:zA.cells none (.sl j (Tm.cellsL done) (.own s7.ntok))=some [.sl j (Tm.cellsL done) (.own s7.ntok)]:=rfl
     refine⟨.agg [u8 t'.k,i64 t'.n,i64 t'.m,i64 t'.i,.sl j (Tm.cellsL done) (.own s7.ntok)],sj,?_,?_,hr,htf⟩
     ·have ho:over t'.c 4 [.sl j (Tm.cellsL done) (.own s7.ntok)]=some [u8 t'.k,i64 t'.n,i64 t'.m,i64 t'.i,.sl j (Tm.cellsL done) (.own s7.ntok)]:=rfl
      simp only[hnl,hcv,ho,qa0,qb7,qhj,qbc,qad,qaf,qao,decide_false,qaa,cond_false,qaj,zab,zaa,cnd]
     ·simp only[qfJ,zbg]
      subst h2
      rw[Tm.with,Tm.v_mk]
      rfl
    |cons u rest ih=>
     intro done k j g c y sj h1 h2 h3 hk hr htf hlt hta
     obtain⟨k,rfl⟩:∃m,k=m+1:=⟨k-1,by simp only[zar] at hk;omega⟩
     simp only[zar] at h3 hk
     have hj:j<t'.ks.length:=by omega
     have hdr:=zaz hj
     have h1':=List.append_cancel_left h1
     rw[hdr] at h1'
     injection h1' with hu hrest
     have hku:t'.ks[j]? =some u:=by rw[zah hj,hu]
     have hmem:u∈t'.ks:=zaM hku
     have hus:u.size<t'.size:=qa5 hmem
     have hia:iaV 5 (kv t'.ks) (i64 (.ofNat j))=some (Tm.cellsL t'.ks,j*5):=Tm.ia_kid hj
     have hld:∀s,ldH (qag CP n E) s (.elem (Tm.cellsL t'.ks) (j*5)) (some 5)=some u.v:=fun s=>Tm.ld_kid _ _ hku
     let l':Int:=if lab&&decide (j=0) then l+1 else l
     have hl':0<=l'/\l'+u.size<=1000000:=by
      simp only[l']
      split<;>omega
     obtain⟨s1,m1,m2,m3⟩:=hm q y E sj u l' (by omega) (hkAd u hmem) hl'.1 hl'.2 hr
     have hta1:qas s1.toks s7.ntok=some (j,5):=(m3.2 _ hlt).trans hta
     obtain⟨ts,a1,a2⟩:=qm7 (qag CP n E) (b:=56) (cs:=Tm.cellsL done) (new:=(qc9 by_ d y u l').2.cells) (y:=.sl 1 (qc9 by_ d y u l').2.cells .full) hta1 rfl (Tm.len_cells _) (by omega)
     have hms:=qpN (qc9 by_ d y u l').2
     have hcl1:Tm.cellsL [(qc9 by_ d y u l').2]=(qc9 by_ d y u l').2.cells:=by simp only[Tm.cellsL,zbg]
     rw[hcl1] at hms
     have hcells:Tm.cellsL done++(qc9 by_ d y u l').2.cells=Tm.cellsL (done++[(qc9 by_ d y u l').2]):=by rw[Tm.cellsL_append,hcl1]
     rw[hcells] at a1
     have htf2:TF s7 {s1 with toks:=ts}:=by
      have h:=htf.trans m3
      refine⟨h.1,fun t ht=>?_⟩
      show qas ts t=_
      rw[a2,if_neg (by omega)]
      exact h.2 t ht
     have hnext:=ih (done++[(qc9 by_ d y u l').2]) k (j+1) (g+1) u.c (qc9 by_ d y u l').1 {s1 with toks:=ts} (by rw[hrest]) (by simp only[zaw,zar,zaB,h2]) (by omega) (by omega) (hR q _ E s1 _ m2 rfl rfl) htf2 (by have:=m3.1;show _<s1.ntok;omega) (by show qas ts _=_;rw[a2,if_pos rfl])
     obtain⟨r,s',e1,e2,e3,e4⟩:=hnext
     rw[qa6]
     generalize lp _ F k=L at e1⊢
     subst hF
     refine⟨r,s',?_,?_,e3,e4⟩
     ·have hlw:qbb .i64 (l+1)=l+1:=qbu (by omega) (by omega)
      have hjw:=qaN (show j<9223372036854775807 by omega)
      unfold s108_1 s108_0
      by_cases h11:t'.k=11
      ·by_cases hj0:j=0
       ·have hl1:l'=l+1:=by
         simp only[l',<-hlab,h11,hj0,decide_true,zat,if_true]
        rw[hl1] at m1 hms a1 e1
        subst hj0
        have hz:(Int.ofNat 0:Int)=0:=rfl
        have hia0:iaV 5 (kv t'.ks) (i64 0)=some (Tm.cellsL t'.ks,0*5):=hia
        have hd0:(0:Int)<Int.ofNat t'.ks.length:=of_lt.2 hj
        have hw1:qbb .i64 (0+1)=1:=rfl
        have e1':L (.sl (0+1) (Tm.cellsL (done++[(qc9 by_ d y u (l+1)).2])) (.own s7.ntok)) (i64 1) (g+1) t'.c [u8 0,i64 0,i64 0,i64 0,.sl 0 [] .full] u.c {s1 with toks:=ts}=some (r,s'):=e1
        simp only[hz,hd0,hia0,hld,za8,h11,hlw,m1,hms,a1,hw1,qah,qaU,qbc,qav,qad,qaf,qao,qaw,decide_true,qaa,cond_true,qaj,zab,zaa,qab,cnd]
        exact e1'
       ·have hl1:l'=l:=by simp only[l',hj0,decide_false,zaT,zai,if_false]
        rw[hl1] at m1 hms a1 e1
        have hjz:¬((Int.ofNat j:Int)=0):=by simp only[zaf];omega
        simp only[of_lt.2 hj,hia,hld,za8,h11,hjz,m1,hms,a1,hjw,qah,qaU,qbc,qav,qad,qaf,qao,qaw,decide_true,decide_false,qaa,cond_true,cond_false,qaj,zab,zaa,qab,cnd]
        exact e1
      ·have hl1:l'=l:=by simp only[l',←hlab,h11,decide_false,zav,zai,if_false]
       rw[hl1] at m1 hms a1 e1
       simp only[of_lt.2 hj,hia,hld,za8,h11,m1,hms,a1,hjw,qah,qaU,qbc,qav,qad,qaf,qao,qaw,decide_true,decide_false,qaa,cond_true,cond_false,qaj,zab,zaa,qab,cnd]
       exact e1
     ·rw[e2]
      simp only[qfJ,l',zaH,zaF,zaJ]
   have hfin:=key t'.ks [] n 0 0 [] x' {s7 with ntok:=s7.ntok+1,toks:=(s7.ntok,0,5)::s7.toks} rfl rfl (by omega) (by omega) (hR q _ E s7 _ b2 rfl rfl) ⟨Nat.le_succ _,fun t ht=>by
     show qas ((s7.ntok,0,5)::s7.toks) t=_
     rw[qap,if_neg (by omega)]⟩ (zbe _) (by show qas ((s7.ntok,0,5)::s7.toks) _=_;rw[qap,if_pos rfl])
   obtain⟨r,s',e1,e2,e3,e4⟩:=hfin
   exact⟨r,s',e1,e2,e3,b3.trans e4⟩
end
end Go.AI.Tryz
namespace Go.AI
mutual
def Tm.chg (g:Tm->Int->Tm):Tm->Int->Tm
 |.mk k n m i ks,l=> .mk (g (.mk k n m i ks) l).k (g (.mk k n m i ks) l).n (g (.mk k n m i ks) l).m (g (.mk k n m i ks) l).i (Tm.chgK g (decide (k=11)) l 0 ks)
def Tm.chgK (g:Tm->Int->Tm)(lab:Bool)(l:Int):Nat->List Tm->List Tm
 |_,[]=>[]
 |j,u::r=>Tm.chg g u (if lab&&decide (j=0) then l+1 else l)::Tm.chgK g lab l (j+1) r
end
mutual
def Tm.any (is:Tm->Int->Bool):Tm->Int->Bool
 |.mk k n m i ks,l=>is (.mk k n m i ks) l||Tm.anyK is (decide (k=11)) l 0 ks
def Tm.anyK (is:Tm->Int->Bool)(lab:Bool)(l:Int):Nat->List Tm->Bool
 |_,[]=>false
 |j,u::r=>Tm.any is u (if lab&&decide (j=0) then l+1 else l)||Tm.anyK is lab l (j+1) r
end
theorem Tm.chg_eq (g:Tm->Int->Tm)(t:Tm)(l:Int):t.chg g l=.mk (g t l).k (g t l).n (g t l).m (g t l).i (Tm.chgK g (decide (t.k=11)) l 0 t.ks):=by cases t;simp only[Tm.chg];rfl
theorem Tm.any_eq (is:Tm->Int->Bool)(t:Tm)(l:Int):t.any is l=(is t l||Tm.anyK is (decide (t.k=11)) l 0 t.ks):=by cases t;simp only[Tm.any];rfl
section
variable {σ:Type}
theorem qgG (g:Tm->Int->Tm)(hg:∀t l,(g t l).ks=t.ks/\(g t l).k=t.k):∀(d:Nat) (x:σ) (t:Tm) (l:Int),t.size<=d->qc9 (fun x t l=>(x,g t l,true)) d x t l=(x,t.chg g l)
 |0,x,t,l,h=>by have:=Tm.size_pos t;omega
 |d+1,x,t,l,h=>by
  have hk:∀(ks:List Tm) (j:Nat),(∀u∈ks,u.size<=d)->qfJ (qc9 (fun x t l=>(x,g t l,true)) d) (decide (t.k=11)) l j x ks=(x,Tm.chgK g (decide (t.k=11)) l j ks):=by
   intro ks
   induction ks with
   |nil=>intro j _;rfl
   |cons u r ih=>
    intro j hu
    simp only[qfJ,Tm.chgK]
    rw[qgG g hg d x u _ (hu u (zau ..)),ih (j+1) fun v hv=>hu v (zax _ hv)]
  simp only[qc9,if_true]
  rw[(hg t l).1,(hg t l).2,hk t.ks 0 (fun u hu=>by
   have:=Tm.sizeL_mem hu
   rw[Tm.size_ks t] at h;omega),Tm.chg_eq]
  rfl
theorem qpS:∀(d:Nat) (t:Tm) (l:Int),t.size<=d->t.chg (fun t _=>t) l=t
 |0,t,l,h=>by have:=Tm.size_pos t;omega
 |d+1,t,l,h=>by
  have hk:∀(ks:List Tm) (j:Nat),(∀u∈ks,u.size<=d)->Tm.chgK (fun t _=>t) (decide (t.k=11)) l j ks=ks:=by
   intro ks
   induction ks with
   |nil=>intro j _;rfl
   |cons u r ih=>
    intro j hu
    simp only[Tm.chgK]
    rw[qpS d u _ (hu u (zau ..)),ih (j+1) fun v hv=>hu v (zax _ hv)]
  rw[Tm.chg_eq,hk t.ks 0 (fun u hu=>by
   have:=Tm.sizeL_mem hu
   rw[Tm.size_ks t] at h;omega)]
  cases t;rfl
end
def qd7 {τ:Type}(is:τ->Tm->Int->τ×Bool):τ×Bool->Tm->Int->(τ×Bool)×(Tm×Bool):=fun x t l=>if x.2 then(x,t,false) else(is x.1 t l,t,!(is x.1 t l).2)
theorem qm8 (is:Tm->Int->Bool):∀(d:Nat) (x:Unit×Bool) (t:Tm) (l:Int),t.size<=d->(qc9 (qd7 fun y t l=>(y,is t l)) d x t l).1=((),x.2||t.any is l)
 |0,x,t,l,h=>by have:=Tm.size_pos t;omega
 |d+1,x,t,l,h=>by
  obtain⟨⟨⟩,f⟩:=x
  have hk:∀(ks:List Tm) (j:Nat) (f:Bool),(∀u∈ks,u.size<=d)->(qfJ (qc9 (qd7 fun y t l=>(y,is t l)) d) (decide (t.k=11)) l j ((),f) ks).1=((),f||Tm.anyK is (decide (t.k=11)) l j ks):=by
   intro ks
   induction ks with
   |nil=>intro j f _;simp only[qfJ,Tm.anyK,Bool.or_false]
   |cons u r ih=>
    intro j f hu
    simp only[qfJ,Tm.anyK]
    rw[qm8 is d _ u _ (hu u (zau ..)),ih (j+1) _ fun v hv=>hu v (zax _ hv)]
    simp only[Bool.or_assoc]
  rw[Tm.any_eq]
  unfold qc9
  cases f with
  |true=>simp only[qd7,if_true,zai,if_false,zbl]
  |false=>
   simp only[qd7,zai,if_false,za6]
   cases hi:is t l with
   |true=>simp only[zak,zai,if_false,zbl]
   |false=>
    simp only[zal,if_true,za6]
    rw[hk t.ks 0 false (fun u hu=>by
     have:=Tm.sizeL_mem hu
     rw[Tm.size_ks t] at h;omega)]
    simp only[za6]
end Go.AI
namespace Go.AI.Tryz
theorem qb5 (t:Tm)(b:Bool):qaD (.tuple [t.v,bl b])=.tuple [t.v,bl b]:=by rw[Tm.v_eq];rfl
theorem qcf (lo:Nat)(t:Tm)(b:Bool):qeh lo (.tuple [t.v,bl b])=true:=by rw[Tm.v_eq];rfl
theorem qpT {n:Nat}(hn:1<=n)(E:qaR)(f:Nat)(a b:zA)(s:ASt):clv (qag CP n E) (.p (.func f [] [])) [a,b] s=cl (qag CP n E) f [a,b] s:=qgk CP hn E f [a,b] s
end Go.AI.Tryz
namespace Go.AI.Tryz
def UC {ι:Type}(f:Nat)(args:ι->List zA)(C:ι->qaR->ASt->Prop)(r:ι->zA):Prop:=Ev fun n=>∀p E s,C p E s->cl (qag CP n E) f (args p) s=some (r p,s)
theorem UC.of {ι:Type}{f np:Nat}{cf:CF}{args:ι->List zA}{C:ι->qaR->ASt->Prop}{r':ι->zA}(hcf:CP f=some cf)(hfl:flP cf np=true)(hl:∀p,(args p).length=np)(ha:∀p,(args p).all qbF=true)(hargs:∀p,(args p).map qaD=args p)(hC:∀p,Stab (C p))
  (hpl:∀p lo,qeh lo (r' p)=true)(hb:Ev fun n=>∀p E s,C p E s->∃r s',qau cf (qag CP n E) n (args p) s=some (r,s')/\qaD r=r' p):UC f args C r':=by
 refine Ev.succ (hb.mono fun n h p E s hc=>?_)
 obtain⟨r,s',h,hv⟩:=h p (s.heap++E) {s with heap:=[],toks:=[]} (hC p E s hc)
 rw[qb4]
 exact qhc hcf hfl (hl p) (ha p) (hargs p) h hv (hpl p _)
theorem Stab.pure (P:Prop):Stab fun _ _=>P:=fun _ _ h=>h
abbrev Q:=Tm×Int
abbrev qa (p:Q):List zA:=[p.1.v,i64 p.2]
theorem ql1 (p:Q):(qa p).all qbF=true:=by simp only[zap,qak];rfl
theorem qjA (p:Q):(qa p).map qaD=qa p:=by simp only[zam,qai];rfl
theorem qpU {f:Nat}{g:Tm->Int->Tm×Bool}{Ad:Tm->Prop}{d:Nat}(h:UC f qa (fun p _ _=>Ad p.1/\0<=p.2) (fun p=> .tuple [(g p.1 p.2).1.v,bl (g p.1 p.2).2])):
  Ev fun n=>∀_:Unit,ByC (fun(_:Unit) _ _=>True) (fun x t l=>(x,g t l)) (.p (.func f [] [])) Ad n d:=by
 refine(h.and (Ev.ge 1)).mono fun n ⟨h,hn⟩ _ x E s t l h1 h2 h3 h4 _=>⟨s,?_,trivial,TF.refl s⟩
 rw[qpT hn]
 exact h (t,l) E s ⟨h2,h3⟩
theorem qkX:UC 109 qa (fun p _ _=>True/\0<=p.2) (fun p=> .tuple [p.1.v,bl true]):=by
 refine UC.of (cf:=cf109) (np:=2) (by kernel_rfl) (by kernel_rfl) (fun _=>rfl) ql1 qjA (fun _=>Stab.pure _) (fun p lo=>qcf lo _ _) (Ev.of fun n p E s _=>⟨.tuple [p.1.v,bl true],s,(s109_eq _ _ _ _ _).trans ?_,qb5 _ _⟩)
 unfold s109
 simp only[qah,qaU,qav,zaa]
end Go.AI.Tryz
namespace Go.AI.Tryz
theorem qrL (t:Tm)(hs:t.size<=900000):PC CP 60 [t.v] t.v:=by
 refine PC.of2 (cf:=cf60) (np:=1) (args':=[t.v]) (by kernel_rfl) (by kernel_rfl) rfl (by simp only[zap,qak];rfl) (by simp only[zam,qai];rfl) (fun lo=>qaM lo _)
  ((qd6 (R:=fun _ _ _ _=>True) (fv:=fun _=>_) (fun _ _ _ _ _ _ _ _=>trivial) (fun _=>rfl) (fun _=>rfl) (fun _ t _ _ _=>⟨zan _,fun _ _=>trivial⟩) t.size (qpU (g:=fun t _=>(t,true)) (Ad:=fun _=>True) (d:=t.size) qkX)).mono fun n h E s=>?_)
 obtain⟨s',h',_,_⟩:=h () () E s t 0 (zan _) trivial (by omega) (by omega) trivial
 have e:=qgG (σ:=Unit) (fun t _=>t) (fun _ _=>⟨rfl,rfl⟩) t.size () t 0 (zan _)
 rw[show(fun(x:Unit) (t:Tm) (l:Int)=>(x,(fun(t:Tm) (_:Int)=>(t,true)) t l))=fun x t l=>(x,(fun(t:Tm) (_:Int)=>t) t l,true) from rfl,e,qpS t.size t 0 (zan _)] at h'
 refine⟨t.v,s',(s60_eq _ _ _ _).trans ?_,qai _⟩
 unfold s60
 simp only[h',qah,qaU,qav,zaa,qab]
def qcM (t:Tm)(l:Int):Tm:=if t.k=12/\l<t.n then .mk t.k (t.n-1) t.m t.i t.ks else t
theorem qhv (t:Tm)(l:Int):(qcM t l).ks=t.ks/\(qcM t l).k=t.k:=by unfold qcM;split<;>exact⟨rfl,rfl⟩
theorem qsG (t:Tm):Tm.mk t.k t.n t.m t.i t.ks=t:=by cases t;rfl
theorem qvM:UC 190 qa (fun p _ _=>p.1.Ok/\0<=p.2) (fun p=> .tuple [(qcM p.1 p.2).v,bl true]):=by
 refine UC.of (cf:=cf190) (np:=2) (by kernel_rfl) (by kernel_rfl) (fun _=>rfl) ql1 qjA (fun _=>Stab.pure _) (fun p lo=>qcf lo _ _) (Ev.of fun n p E s ⟨hok,hl⟩=>⟨.tuple [(qcM p.1 p.2).v,bl true],s,(s190_eq _ _ _ _ _).trans ?_,qb5 _ _⟩)
 obtain⟨t,l⟩:=p
 simp only at hok hl⊢
 unfold s190 s190_1 s190_0 qcM
 by_cases hk:t.k=12
 ·by_cases hn:l<t.n
  ·have hn2:t.n≤9223372036854775807:=by cases hok with|mk _ hn' _ _ _ _=>exact hn'.2
   have hw:qbb .i64 (t.n-1)=t.n-1:=qbu (by omega) (by omega)
   have ho:∀z:Int,over t.c 1 [i64 z]=some (Tm.mk t.k z t.m t.i t.ks).c:=fun _=>rfl
   simp only[hk,hn,hw,qby,ho,and_self,if_true,qah,qaU,qbc,qb1,qav,qad,qaf,qaG,qa2,decide_true,qaa,cond_true,cond_false,qaj,zab,zaa]
  ·simp only[hk,hn,and_false,if_false,qah,qaU,qbc,qb1,qav,qad,qaf,qaG,qa2,decide_true,decide_false,qaa,cond_true,cond_false,qaj,zab,zaa]
 ·simp only[hk,false_and,if_false,qah,qaU,qbc,qb1,qav,qad,qaf,qaG,qa2,decide_false,qaa,cond_false,qaj,zab,zaa]
def Tm.unl (t:Tm):Tm:=t.chg qcM 0
theorem qkY (t:Tm)(hok:t.Ok)(hs:t.size<=900000):PC CP 157 [t.v] (Tm.unl t).v:=by
 refine PC.of2 (cf:=cf157) (np:=1) (args':=[t.v]) (by kernel_rfl) (by kernel_rfl) rfl (by simp only[zap,qak];rfl) (by simp only[zam,qai];rfl) (fun lo=>qaM lo _)
  ((qd6 (R:=fun _ _ _ _=>True) (fv:=fun _=>_) (fun _ _ _ _ _ _ _ _=>trivial) (fun _=>rfl) (fun _=>rfl) (fun _ t l h _=>⟨by simp only[Tm.size_ks,(qhv t l).1];omega,fun u hu=>by rw[(qhv t l).1] at hu;exact h.kids u hu⟩) t.size (qpU (g:=fun t l=>(qcM t l,true)) (Ad:=Tm.Ok) (d:=t.size) qvM)).mono fun n h E s=>?_)
 obtain⟨s',h',_,_⟩:=h () () E s t 0 (zan _) hok (by omega) (by omega) trivial
 have e:=qgG (σ:=Unit) qcM qhv t.size () t 0 (zan _)
 rw[e] at h'
 refine⟨(Tm.unl t).v,s',(s157_eq _ _ _ _).trans ?_,qai _⟩
 unfold s157
 have h'':cl (qag CP n E) 108 [t.v,i64 0,.p (.func 190 [] [])] s=some ((Tm.unl t).v,s'):=h'
 simp only[h'',qah,qaU,qav,zaa,qab]
end Go.AI.Tryz
namespace Go.AI.Tryz
theorem qaS {E:qaR}{s:ASt}{l:Nat}{cs:List zA}{H:qaR}(h:s.heap=(l,.cells cs)::H):qar E s l=some cs:=by
 unfold qar
 simp only[h,qas,qaE rfl,cond_true]
theorem beq_false {a b:Nat}(h:a≠b):Nat.beq a b=false:=by
 cases hb:Nat.beq a b with
 |false=>rfl
 |true=>exact absurd (beq_iff.1 hb) h
theorem qbx {E:qaR}{s:ASt}{l m:Nat}{o:zH}{H:qaR}(h:s.heap=(m,o)::H)(hne:m≠l):qar E s l=qar E {s with heap:=H} l:=by
 unfold qar
 simp only[h,qas,beq_false hne,cond_false]
theorem qqT {s:ASt}{l:Nat}{zs cs new:List zA}{H:qaR}{o:Nat}(h:s.heap=(l,.cells zs)::H)(ha:cs.all qaY=true)(ho:over zs o cs=some new):stH s (.ptr l o) cs=some {s with heap:=(l,.cells new)::H}:=by
 unfold stH qbP
 simp only[h,qas,qaK,qaE rfl,cond_true,ha,ho,zaa,zab]
section
variable {ι τ:Type} {isv:ι->zA} {is:τ->Tm->Int->τ×Bool} {C:ι->τ->qaR->qaR->Nat->Prop} {Ad:Tm->Prop}
def IsC (isv:ι->zA)(is:τ->Tm->Int->τ×Bool)(C:ι->τ->qaR->qaR->Nat->Prop)(Ad:Tm->Prop)(n d:Nat):Prop:=
 ∀p y E H N a b s t l,t.size<=d->Ad t->0<=l->s.heap=(N+1,a)::(N,b)::H->s.next=N+2->C p y E H N->
  ∃s' H',clv (qag CP n E) (isv p) [t.v,i64 l] s=some (bl (is y t l).2,s')/\s'.heap=(N+1,a)::(N,b)::H'/\s'.next=N+2/\C p (is y t l).1 E H' N/\TF s s'
def qxD (isv:ι->zA)(C:ι->τ->qaR->qaR->Nat->Prop)(p:ι)(N:Nat):τ×Bool->qaR->ASt->Prop:=fun x E s=>
 ∃H,s.heap=(N+1,.cells [bl x.2])::(N,.cells [isv p])::H/\s.next=N+2/\C p x.1 E H N
theorem qm9 {n:Nat}{E:qaR}{s:ASt}{l:Nat}{b:Bool}(h:qar (qag CP n E).E s l=some [bl b])(L1 L2 L3 L4 L5 L6:LL):
  okV (qag CP n E) [(L1,s),(L2,s),(L3,s),(L4,s),(L5,s),(L6,s)] (.ptr l 0) 1 [(3,0)]=true:=by
 have hl:loadFrom (qag CP n E).E .nil s (.ptr l 0) 1=some [bl b]:=by
  simp only[loadFrom,h,zaa]
  rfl
 have h4:∀L,qlG (qag CP n E) L s (.ptr l 0) 1=some [bl b]:=fun L=>hl
 have e3:qeP [(L1,s),(L2,s),(L3,s),(L4,s),(L5,s),(L6,s)] 3=some (L4,s):=rfl
 have e4:qeP [(L1,s),(L2,s),(L3,s),(L4,s),(L5,s),(L6,s)] (3+1)=some (L5,s):=rfl
 have hs:qaT (some [bl b]) (some [bl b])=true:=by simp only[qaT,qdn,qfW,zat]
 simp only[okV,zap,List.all_nil,okJ,e3,e4,h4,hs,Bool.or_true,zat]
theorem qtP (ha:∀p,qaY (isv p)=true)(hcell:∀p,ldL [isv p] 0 none=some (isv p))(d:Nat)(his:Ev fun n=>IsC isv is C Ad n d):Ev fun n=>∀p N,ByC (qxD isv C p N) (qd7 is) (.func 191 [] [.ptr (N+1) 0,.ptr N 0]) Ad n d:=by
 refine Ev.succ ((his.and (Ev.ge 1)).mono fun n ⟨h,hn⟩ p N x E s t l h1 h2 h3 h4 ⟨H,r1,r2,r3⟩=>?_)
 rw[qh0 CP (by omega)]
 simp only[zaJ,zaF]
 have hc7:∀m E',qar (qag CP m E').E s (N+1)=some [bl x.2]:=fun m E'=>qaS r1
 have hc5:∀m E',qar (qag CP m E').E s N=some [isv p]:=fun m E'=>by
  rw[qbx r1 (by omega)]
  exact qaS (s:={s with heap:=(N,.cells [isv p])::H}) rfl
 suffices ∃s',s191 (qag CP n E) n t.v (i64 l) (.ptr (N+1) 0) (.ptr N 0) s=some (.tuple [(qd7 is x t l).2.1.v,bl (qd7 is x t l).2.2],s')/\qxD isv C p N (qd7 is x t l).1 E s'/\TF s s' by
  obtain⟨s',e1,e2,e3⟩:=this
  refine⟨s',?_,e2,e3⟩
  rw[qb4]
  exact qfy (cf:=cf191) (np:=4) (args':=[t.v,i64 l,.ptr (N+1) 0,.ptr N 0]) (by kernel_rfl) (by kernel_rfl) rfl (by simp only[zap,qak];rfl) (by simp only[zam,qai];rfl) ((s191_eq _ _ _ _ _ _ _).trans e1) (qb5 _ _) (by rw[Tm.v_eq];rfl)
 obtain⟨y,f⟩:=x
 unfold s191 s191_0 qd7
 cases f with
 |true=>
  have hst:=qqT (cs:=[bl true]) (new:=[bl true]) (o:=0) r1 rfl rfl
  have hs:({s with heap:=(N+1,.cells [bl true])::(N,.cells [isv p])::H}:ASt)=s:=by rw[<-r1]
  rw[hs] at hst
  refine⟨s,?_,⟨H,r1,r2,r3⟩,TF.refl s⟩
  simp only[ldP (hc7 n E),qdb,qbU,hst,qm9 (hc7 n E),za7,if_true,qah,qaU,qav,zak,qaa,cond_true,qaj,zaa,qam,cnd]
 |false=>
  obtain⟨s',H',i1,i2,i3,i4,i5⟩:=h p y E H N (.cells [bl false]) (.cells [isv p]) s t l h1 h2 h3 r1 r2 r3
  have hst:=qqT (cs:=[bl (is y t l).2]) (new:=[bl (is y t l).2]) (o:=0) i2 rfl rfl
  have hc':qar (qag CP n E).E {s' with heap:=(N+1,.cells [bl (is y t l).2])::(N,.cells [isv p])::H'} (N+1)=some [bl (is y t l).2]:=qaS rfl
  refine⟨{s' with heap:=(N+1,.cells [bl (is y t l).2])::(N,.cells [isv p])::H'},?_,⟨H',rfl,i3,i4⟩,i5⟩
  have hok:=qm9 hc'
  simp only[ldP (hc7 n E),ldP (hc5 n E),ldP hc',qdb,hcell p,i1,qbU,hst,hok,za7,zai,if_false,qah,qaU,qav,qaa,cond_false,qaj,zaa,qab,qam,cnd]
theorem qhw (ha:∀p,qaY (isv p)=true)(hw:∀p,qbF (isv p)=true)(hce:∀p,zA.cells none (isv p)=some [isv p])(he:∀p,qaD (isv p)=isv p)(t:Tm)(hs:t.size<=900000)(hAd:Ad t)(hk:∀t,Ad t->∀u∈t.ks,Ad u)(his:Ev fun n=>IsC isv is C Ad n t.size)
  (hC:∀p y E H N N',C p y E H N->N<=N'->C p y E H N'):
  Ev fun n=>∀p y E s,C p y E s.heap s.next->∃s' H',cl (qag CP n E) 159 [t.v,isv p] s=some (bl (qc9 (qd7 is) t.size (y,false) t 0).1.2,s')/\s'.heap=(s.next+1,.cells [bl (qc9 (qd7 is) t.size (y,false) t 0).1.2])::(s.next,.cells [isv p])::H'/\C p (qc9 (qd7 is) t.size (y,false) t 0).1.1 E H' s.next/\s'.next=s.next+2/\TF s s':=by
 have hcell:∀p,ldL [isv p] 0 none=some (isv p):=fun p=>rfl
 have hby:=qtP ha hcell t.size his
 have hmap:=qd6 (κ:=ι×Nat) (R:=fun q=>qxD isv C q.1 q.2) (fv:=fun q=> .func 191 [] [.ptr (q.2+1) 0,.ptr q.2 0]) (by_:=qd7 is) (Ad:=Ad) (fun q x E s s' ⟨H,r1,r2,r3⟩ e1 e2=>⟨H,by rw[e1];exact r1,by rw[e2];exact r2,r3⟩) (fun _=>rfl) (fun _=>rfl)
  (fun x t l hA hgo=>by
   unfold qd7 at hgo⊢
   split
   ·rename_i hx
    rw[if_pos hx] at hgo
    cases hgo
   ·exact⟨zan _,hk t hA⟩) t.size (hby.mono fun n h q=>h q.1 q.2)
 refine Ev.succ (hmap.mono fun n h p y E s hc=>?_)
 obtain⟨s',e1,⟨H',r1,r2,r3⟩,e3⟩:=h (p,s.next) (y,false) E (qal (qal s (.cells [isv p])) (.cells [bl false])) t 0 (zan _) hAd (by omega) (by omega) ⟨s.heap,rfl,rfl,hc⟩
 generalize (qc9 (qd7 is) t.size (y,false) t 0).1=q at e1 r1 r3⊢
 refine⟨s',H',?_,r1,r3,r2,e3⟩
 rw[qb4]
 refine qfy (cf:=cf159) (np:=2) (args':=[t.v,isv p]) (v:=bl q.2) (by kernel_rfl) (by kernel_rfl) rfl (by simp only[zap,qak,hw];rfl) (by simp only[zam,qai,he];rfl) ((s159_eq _ _ _ _ _).trans ?_) rfl rfl
 have h':cl (qag CP n E) 108 [t.v,i64 0,.func 191 [] [.ptr (qal s (.cells [isv p])).next 0,.ptr s.next 0]] (qal (qal s (.cells [isv p])) (.cells [bl false]))=some (_,s'):=e1
 have hst:stH (qal (qal s (.cells [isv p])) (.cells [bl false])) (.ptr (qal s (.cells [isv p])).next 0) [bl false]=some (qal (qal s (.cells [isv p])) (.cells [bl false])):=qjv _ _ _ _ _ rfl rfl
 have hc7:qar (qag CP n E).E s' (qal s (.cells [isv p])).next=some [bl q.2]:=qaS r1
 have haw:[isv p].all qaY=true:=by simp only[zap,ha,List.all_nil,zat]
 have haw2:[bl false].all qaY=true:=rfl
 unfold s159
 simp only[hce,haw,qbU,hst,h',ldP hc7,qdb,qah,qaU,zaa,qab,qa3,qbw,cnd]
end
theorem qna (is:Tm->Int->Bool)(t:Tm):(qc9 (qd7 fun(y:Unit) t l=>(y,is t l)) t.size ((),false) t 0).1.2=t.any is 0:=by
 rw[qm8 is t.size ((),false) t 0 (zan _)]
 exact za6 _
def qcB (t:Tm)(l:Int):Bool:=decide (t.k=12)&&decide (t.n=l)
def qkZ (t:Tm):Bool:=t.any qcB 0
theorem lead1_u:UC 189 qa (fun p _ _=>True) (fun p=>bl (qcB p.1 p.2)):=by
 refine UC.of (cf:=cf189) (np:=2) (by kernel_rfl) (by kernel_rfl) (fun _=>rfl) ql1 qjA (fun _=>Stab.pure _) (fun p lo=>rfl) (Ev.of fun n p E s _=>⟨bl (qcB p.1 p.2),s,(s189_eq _ _ _ _ _).trans ?_,rfl⟩)
 unfold s189 s189_0 qcB
 simp only[qah,qbc,qb1,qad,qaf,qaa,qaj,zab,zaa]
 by_cases hk:p.1.k=12<;>simp only[hk,zay,zav,decide_true,decide_false,cond_true,cond_false]
theorem qtQ (t:Tm)(hs:t.size<=900000):PC CP 155 [t.v] (bl (qkZ t)):=by
 have his:Ev fun n=>IsC (ι:=Unit) (fun _=> .p (.func 189 [] [])) (fun(y:Unit) t l=>(y,qcB t l)) (fun _ _ _ _ _=>True) (fun _=>True) n t.size:=by
  refine(lead1_u.and (Ev.ge 1)).mono fun n ⟨h,hn⟩ p y E H N a b s t l _ _ _ h1 h2 _=>⟨s,H,?_,h1,h2,trivial,TF.refl s⟩
  rw[qpT hn]
  exact h (t,l) E s trivial
 refine PC.of2 (cf:=cf155) (np:=1) (args':=[t.v]) (by kernel_rfl) (by kernel_rfl) rfl (by simp only[zap,qak];rfl) (by simp only[zam,qai];rfl) (fun lo=>rfl)
  ((qhw (C:=fun _ _ _ _ _=>True) (Ad:=fun _=>True) (fun _=>rfl) (fun _=>rfl) (fun _=>rfl) (fun _=>rfl) t hs trivial (fun _ _ _ _=>trivial) his (fun _ _ _ _ _ _ h _=>h)).mono fun n h E s=>?_)
 obtain⟨s',H',e,_⟩:=h () () E s trivial
 rw[qna] at e
 refine⟨bl (qkZ t),s',(s155_eq _ _ _ _).trans ?_,rfl⟩
 unfold s155
 have e':cl (qag CP n E) 159 [t.v,.p (.func 189 [] [])] s=some (bl (qkZ t),s'):=e
 simp only[e',qah,qaU,zaa,qab]
def qe1 (t:Tm):Option Tm:=if t.k=11 then(match t.ks with|[u,w]=>if !qkZ u then some (Tm.unl u) else none|_=>none) else none
theorem qrM (x:Sc)(u w:Tm)(hok:u.Ok)(hs:u.size<=900000):IC 156 (fun l=>[.ptr l 0]) (C1 (vw x (.lbl u w)).c) (Tm.unl u).v:=by
 refine IC.of (cf:=cf156) (np:=1) (args':=fun l=>[.ptr l 0]) (by kernel_rfl) (by kernel_rfl) (fun _=>rfl) (fun _=>rfl) (fun _=>rfl) (fun l=>Stab.at l _) (fun lo=>qaM lo _) ((qkY u hok hs).mono fun N h l E s hc=>⟨(Tm.unl u).v,s,(s156_eq _ _ _ _).trans ?_,qai _⟩)
 obtain⟨i0,l0⟩:=qb8 (n:=N) (E:=E) (l:=[u,w]) (u:=u) rfl
 have hc':qar (qag CP N E).E s l=some (vw x (.lbl u w)).c:=by rw[qa9];exact hc
 unfold s156
 simp only[ldP hc',zaK,i0,l0,h,qah,qaU,qav,qco,vwt,zaa,qab,qbD,Tm.ks_mk]
theorem qtR (x:Sc)(t:Tm)(g:Gd x t)(hs:t.size<=900000):RuC 89 x t (qe1 t):=by
 by_cases hk:t.k=11
 ·cases g.sh with
  |lbl u w=>
   have e:qe1 (.lbl u w)=if !qkZ u then some (Tm.unl u) else none:=rfl
   rw[e]
   have ou:=g.ok.kids u (by simp[Tm.ks])
   have su:u.size<(Tm.lbl u w).size:=qa5 (by simp[Tm.ks])
   refine RuC.of (cf:=cf89) (by kernel_rfl) (by kernel_rfl) (((qdx (vw x (.lbl u w)) 11).and ((qtQ u (by omega)).and (qdf (!qkZ u) 156 (fun l=>[.ptr l 0]) (fun _=>rfl) (C1 (vw x (.lbl u w)).c) (fun l=>Stab.at l _) _ fun h=>qrM x u w ou (by omega)))).mono fun N ⟨h1,h2,h4⟩ E s=>?_)
   obtain⟨i0,l0⟩:=qb8 (n:=N) (E:=E) (l:=[u,w]) (u:=u) rfl
   have hw:=fun(s:ASt)=>h4 s.next E (qal s (.cells (vw x (.lbl u w)).c)) (qaO _ _ _)
   refine⟨qal s (.cells (vw x (.lbl u w)).c),(s89_eq _ _ _ _).trans ?_⟩
   unfold s89 s89_0
   clear e
   simp only[h1,i0,l0,h2,hw,qah,qaU,qav,qaH,qch,qco,qds,vwt,decide_true,qaa,cond_true,qaj,zaa,qab,qan,qax,qay,qam,qa3,qbw,cnd,qcW,Tm.k_mk,Tm.ks_mk,qaC]
  |_=>simp only[Tm.k_mk] at hk;omega
 ·have e:qe1 t=none:=by unfold qe1;rw[if_neg hk]
  rw[e]
  refine RuC.of (cf:=cf89) (by kernel_rfl) (by kernel_rfl) (((qdx (vw x t) 11).and (qdf false 156 (fun l=>[.ptr l 0]) (fun _=>rfl) (C1 (vw x t).c) (fun l=>Stab.at l _) .z fun h=>nomatch h)).mono fun N ⟨h1,h3⟩ E s=>?_)
  have hw:=fun(s:ASt)=>h3 s.next E (qal s (.cells (vw x t).c)) (qaO _ _ _)
  refine⟨qal s (.cells (vw x t).c),(s89_eq _ _ _ _).trans ?_⟩
  unfold s89 s89_0
  simp only[h1,hw,hk,zai,if_false,qah,qaU,qav,qaH,qch,qco,qds,vwt,decide_false,qaa,cond_false,qaj,zaa,qab,qan,qax,qay,qa3,qbw,cnd,qcW,qaC,zaR,zaG]
end Go.AI.Tryz
namespace Go.AI
theorem qeA {E:qaR}{s s':ASt}{l:Nat}(h:s'.heap=s.heap):qar E s' l=qar E s l:=by unfold qar;rw[h]
def qdC (E H:qaR)(l:Nat):Option (List zA):=qar E ⟨0,H,0,[]⟩ l
end Go.AI
namespace Go.AI.Tryz
theorem qiB {E:qaR}{s:ASt}{l N:Nat}{a b:zH}{H:qaR}(h:s.heap=(N+1,a)::(N,b)::H)(hl:l<N):qar E s l=qdC E H l:=by
 rw[qbx h (by omega),qbx (s:={s with heap:=(N,b)::H}) rfl (by omega)]
 rfl
def qd8 (ar:Int)(t:Tm)(_:Int):Bool:=decide (t.k=2)||(decide (t.k=12)||(decide (0<t.i)&&!decide (ar<t.i)))
theorem qvN (y:Vw):UC 158 (fun p:Q×Nat=>[p.1.1.v,i64 p.1.2,.ptr p.2 0]) (fun p E s=>qar E s p.2=some y.c) (fun p=>bl (qd8 y.ar p.1.1 p.1.2)):=by
 refine UC.of (cf:=cf158) (np:=3) (by kernel_rfl) (by kernel_rfl) (fun _=>rfl) (fun _=>by simp only[zap,qak];rfl) (fun _=>by simp only[zam,qai];rfl) (fun p=>Stab.at p.2 _) (fun p lo=>rfl) (Ev.of fun n p E s hc=>⟨bl (qd8 y.ar p.1.1 p.1.2),s,(s158_eq _ _ _ _ _ _).trans ?_,rfl⟩)
 have hc':qar (qag CP n E).E s p.2=some y.c:=by rw[qa9];exact hc
 unfold s158 s158_0 qd8
 by_cases h2:p.1.1.k=2
 ·simp only[h2,zbl,qah,qbc,qcL,qad,qaf,qaG,zaj,decide_true,decide_false,qaa,cond_true,cond_false,qaj,zab,zaa,qbD]
 ·by_cases h12:p.1.1.k=12
  ·simp only[h12,zbl,za6,qah,qbc,qcL,qad,qaf,qaG,zaj,decide_true,decide_false,qaa,cond_true,cond_false,qaj,zab,zaa,qbD]
  ·by_cases h0:0<p.1.1.i
   ·simp only[h2,h12,h0,ldP hc',zaK,za6,zay,qah,qbc,qcL,qpK,qad,qaf,qaG,qbl,decide_true,decide_false,qaa,cond_true,cond_false,qaj,zab,zaa,qbD]
   ·simp only[h2,h12,h0,za6,zav,qah,qbc,qcL,qad,qaf,qaG,decide_false,qaa,cond_false,qaj,zab,zaa,qbD]
def qdJ (x:Sc)(t:Tm):Option Tm:=if t.k=18 then(match t.ks with|[u]=>if !u.any (qd8 x.top) 0 then some u else none|_=>none) else none
theorem qiC (x:Vw):qaT (some x.c) (some x.c)=true:=by
 simp only[qaT,Vw.c,qdn,qfW,zat]
theorem qtS {e:Env}{s:ASt}{l:Nat}{x:Vw}(h:qar e.E s l=some x.c):loadFrom e.E .nil s (.ptr l 0) 7=some x.c:=by
 simp only[loadFrom,h,zaa]
 rfl
theorem qrN (x:Sc)(t:Tm)(g:Gd x t)(hs:t.size<=900000):RuC 91 x t (qdJ x t):=by
 have p124:qda CP 124=true:=by kernel_rfl
 by_cases hk:t.k=18
 ·cases g.sh with
  |ntc n0 i u=>
   have e:qdJ x (.ntc n0 i u)=if !u.any (qd8 x.top) 0 then some u else none:=rfl
   rw[e]
   clear e
   have su:u.size<(Tm.ntc n0 i u).size:=qa5 (by simp[Tm.ks])
   let y:=vw x (.ntc n0 i u)
   have his:Ev fun n=>IsC (ι:=Nat) (fun l=> .func 158 [] [.ptr l 0]) (fun(q:Unit) t l=>(q,qd8 x.top t l)) (fun l _ E H N=>qdC E H l=some y.c/\l<N) (fun _=>True) n u.size:=by
    refine((qvN y).and (Ev.ge 1)).mono fun n ⟨h,hn⟩ l q E H N a b s t' l' _ _ _ h1 h2 ⟨h3,h4⟩=>⟨s,H,?_,h1,h2,⟨h3,h4⟩,TF.refl s⟩
    rw[qh0 CP hn]
    exact h ((t',l'),l) E s (by show qar _ _ _=_;rw[qiB h1 h4];exact h3)
   refine RuC.of (cf:=cf91) (by kernel_rfl) (by kernel_rfl) (((qdx y 18).and ((qhw (Ad:=fun _=>True) (fun _=>rfl) (fun _=>rfl) (fun _=>rfl) (fun _=>rfl) u (by omega) trivial (fun _ _ _ _=>trivial) his (fun _ _ _ _ _ _ h hn=>⟨h.1,za2 h.2 hn⟩)).and (qdt (!u.any (qd8 x.top) 0) 133 y u fun _=>qfZ _ u rfl))).mono fun N ⟨h1,h2,h3⟩ E s=>?_)
   obtain⟨i0,l0⟩:=qb8 (n:=N) (E:=E) (l:=[u]) (u:=u) rfl
   let s4:=qal s (.cells y.c)
   obtain⟨s',H',e1,e2,⟨e3,e4⟩,e5,e6⟩:=h2 s.next () E s4 ⟨qaO _ _ _,zbe _⟩
   rw[qna] at e1 e2
   have hc4:qar (qag CP N E).E s4 s.next=some y.c:=by rw[qa9];exact qaO _ _ _
   have hc':qar (qag CP N E).E s' s.next=some y.c:=by
    rw[qa9,qiB e2 (by show s.next<s.next+1;omega)]
    exact e3
   refine⟨s',(s91_eq _ _ _ _).trans ?_⟩
   unfold s91 s91_0
   have hy:vw x (.ntc n0 i u)=y:=rfl
   have hyt:y.t=.ntc n0 i u:=rfl
   simp only[s4] at e1 hc4
   have haw:y.c.all qaY=true:=rfl
   simp only[hy,hyt,h1,i0,l0,e1,ldP hc',qtS hc4,qtS hc',qiC,qjz,p124,ql0,h3,zbl,Bool.or_true,zat,qah,qaU,qav,qaH,qch,qco,qds,decide_true,qaa,cond_true,qaj,zaa,qab,qan,qax,qay,qam,qa3,qbw,cnd,qcW,Tm.k_mk,Tm.ks_mk,qaC]
  |_=>simp only[Tm.k_mk] at hk;omega
 ·have e:qdJ x t=none:=by unfold qdJ;rw[if_neg hk]
  rw[e]
  refine RuC.of (cf:=cf91) (by kernel_rfl) (by kernel_rfl) (((qdx (vw x t) 18).and (qdt false 133 (vw x t) .z fun h=>nomatch h)).mono fun N ⟨h1,h3⟩ E s=>?_)
  have hc4:qar (qag CP N E).E (qal s (.cells (vw x t).c)) s.next=some (vw x t).c:=by rw[qa9];exact qaO _ _ _
  refine⟨qal s (.cells (vw x t).c),(s91_eq _ _ _ _).trans ?_⟩
  unfold s91 s91_0
  simp only[h1,h3,hk,qtS hc4,qiC,qjz,p124,ql0,zbl,Bool.or_true,zat,zai,if_false,qah,qaU,qav,qaH,qch,qco,qds,vwt,decide_false,qaa,cond_false,qaj,zaa,qab,qan,qax,qay,qa3,qbw,cnd,qcW,qaC,zaR,zaG]
structure Nm where
 a:Bool
 p:Bool
 h:Bool
def Nm.c (y:Nm):List zA:=[bl y.a,bl y.p,bl y.h]
def Nm.v (y:Nm):zA:=.agg [bl y.a,bl y.p,bl y.h]
def isA (id:Int)(t:Tm)(_:Int):Bool:=decide (t.i=id)&&decide (t.k=3)
def isP (id:Int)(t:Tm)(_:Int):Bool:=decide (t.i=id)&&(decide (t.k=4)||decide (t.k=18))
def isH (id:Int)(t:Tm)(_:Int):Bool:=decide (t.i=id)&&decide (t.k=16)
def qsH (id:Int)(y:Nm)(t:Tm)(l:Int):Nm:=⟨y.a||isA id t l,y.p||isP id t l,y.h||isH id t l⟩
def qfl (id:Int)(t:Tm):Nm:=⟨t.any (isA id) 0,t.any (isP id) 0,t.any (isH id) 0⟩
theorem qpV (id:Int):∀(d:Nat) (y:Nm) (t:Tm) (l:Int),t.size<=d->(qc9 (qd7 fun y t l=>(qsH id y t l,false)) d (y,false) t l).1=(⟨y.a||t.any (isA id) l,y.p||t.any (isP id) l,y.h||t.any (isH id) l⟩,false)
 |0,y,t,l,h=>by have:=Tm.size_pos t;omega
 |d+1,y,t,l,h=>by
  have hk:∀(ks:List Tm) (j:Nat) (y:Nm),(∀u∈ks,u.size<=d)->(qfJ (qc9 (qd7 fun y t l=>(qsH id y t l,false)) d) (decide (t.k=11)) l j (y,false) ks).1=(⟨y.a||Tm.anyK (isA id) (decide (t.k=11)) l j ks,y.p||Tm.anyK (isP id) (decide (t.k=11)) l j ks,y.h||Tm.anyK (isH id) (decide (t.k=11)) l j ks⟩,false):=by
   intro ks
   induction ks with
   |nil=>intro j y _;simp only[qfJ,Tm.anyK,Bool.or_false]
   |cons u r ih=>
    intro j y hu
    simp only[qfJ,Tm.anyK]
    rw[qpV id d _ u _ (hu u (zau ..)),ih (j+1) _ fun v hv=>hu v (zax _ hv)]
    simp only[Bool.or_assoc]
  unfold qc9
  simp only[qd7,zai,if_false,zal,if_true]
  rw[hk t.ks 0 _ (fun u hu=>by
   have:=Tm.sizeL_mem hu
   rw[Tm.size_ks t] at h;omega),Tm.any_eq (isA id),Tm.any_eq (isP id),Tm.any_eq (isH id)]
  simp only[qsH,Bool.or_assoc]
abbrev nmH (l:Nat)(id:Int)(H0:qaR)(y:Nm):qaR:=(l+1,.cells y.c)::(l,.cells [i64 id])::H0
theorem qrO (id:Int)(d:Nat):Ev fun n=>IsC (ι:=Nat×qaR) (fun p=> .func 203 [] [.ptr p.1 0,.ptr (p.1+1) 0]) (fun y t l=>(qsH id y t l,false)) (fun p y E H N=>H=nmH p.1 id p.2 y/\p.1+1<N) (fun _=>True) n d:=by
 refine Ev.succ ((Ev.ge 0).mono fun n _ p y E H N a b s t l _ _ _ h1 h2 ⟨h3,h4⟩=>?_)
 obtain⟨lp0,H0⟩:=p
 simp only at h3 h4
 subst h3
 let S:Nm->ASt:=fun y=>{s with heap:=(N+1,a)::(N,b)::nmH lp0 id H0 y}
 have hS:s=S y:=by
  show s={s with heap:=_}
  rw[<-h1]
 have hc5:∀y,qar (qag CP n E).E (S y) lp0=some [i64 id]:=fun y=>by
  rw[qa9,qiB (s:=S y) rfl (by omega)]
  have:qar E ⟨0,nmH lp0 id H0 y,0,[]⟩ lp0=_:=qbx rfl (by omega)
  rw[qdC,this]
  exact qaS rfl
 have hc7:∀y,qar (qag CP n E).E (S y) (lp0+1)=some y.c:=fun y=>by
  rw[qa9,qiB (s:=S y) rfl (by omega)]
  exact qaS rfl
 have hst:∀(y y':Nm) (o:Nat) (v:zA),qaY v=true->over y.c o [v]=some y'.c->stH (S y) (.ptr (lp0+1) o) [v]=some (S y'):=by
  intro y y' o v hv ho
  have b1:Nat.beq (N+1) (lp0+1)=false:=beq_false (by omega)
  have b2:Nat.beq N (lp0+1)=false:=beq_false (by omega)
  simp only[stH,qbP,S,nmH,qas,qaK,b1,b2,qaE rfl,cond_false,cond_true,zap,List.all_nil,hv,zat,ho,zaa,zab]
 have hrun:s203 (qag CP n E) n t.v (i64 l) (.ptr lp0 0) (.ptr (lp0+1) 0) (S y)=some (bl false,S (qsH id y t l)):=by
  have sa:∀(y:Nm) (v:Bool),stH (S y) (.ptr (lp0+1) 0) [bl v]=some (S ⟨v,y.p,y.h⟩):=fun y v=>hst y ⟨v,y.p,y.h⟩ 0 _ rfl rfl
  have sp:∀(y:Nm) (v:Bool),stH (S y) (.ptr (lp0+1) 1) [bl v]=some (S ⟨y.a,v,y.h⟩):=fun y v=>hst y ⟨y.a,v,y.h⟩ 1 _ rfl rfl
  have sh:∀(y:Nm) (v:Bool),stH (S y) (.ptr (lp0+1) 2) [bl v]=some (S ⟨y.a,y.p,v⟩):=fun y v=>hst y ⟨y.a,y.p,v⟩ 2 _ rfl rfl
  have l0:∀y:Nm,ldL y.c 0 none=some (bl y.a):=fun _=>rfl
  have l1:∀y:Nm,ldL y.c 1 none=some (bl y.p):=fun _=>rfl
  have l2:∀y:Nm,ldL y.c 2 none=some (bl y.h):=fun _=>rfl
  unfold s203 s203_3 s203_2 s203_1 s203_0 qsH isA isP isH
  by_cases hid:t.i=id
  ·obtain⟨ya,yp,yh⟩:=y
   by_cases k3:t.k=3<;>by_cases k4:t.k=4<;>by_cases k18:t.k=18<;>by_cases k16:t.k=16<;>cases ya<;>cases yp<;>cases yh<;>
    first
    |(exfalso;omega)
    |simp only[hid,k3,k4,k18,k16,ldP (hc5 _),ldP (hc7 _),l0,l1,l2,qdb,sa,sp,sh,qbU,zaK,Bool.or_true,Bool.or_false,zay,zat,qah,qbc,qcL,qad,qaf,zaj,decide_true,decide_false,qaa,cond_true,cond_false,qaj,zab,zaa,qbD]
  ·have:(⟨y.a||false,y.p||false,y.h||false⟩:Nm)=y:=by simp only[Bool.or_false]
   simp only[hid,ldP (hc5 _),qdb,zav,this,qah,qbc,qcL,qad,qaf,decide_false,qaa,cond_false,qaj,zab,zaa,qbD]
 refine⟨S (qsH id y t l),nmH lp0 id H0 (qsH id y t l),?_,rfl,h2,⟨rfl,h4⟩,?_⟩
 ·rw[qh0 CP (by omega),qb4]
  refine qfy (cf:=cf203) (np:=4) (args':=[t.v,i64 l,.ptr lp0 0,.ptr (lp0+1) 0]) (v:=bl false) (by kernel_rfl) (by kernel_rfl) rfl (by simp only[zaJ,zaF,zap,qak];rfl) (by simp only[zaJ,zaF,zam,qai];rfl) ((s203_eq _ _ _ _ _ _ _).trans ?_) rfl rfl
  rw[<-hrun,<-hS]
 ·rw[hS]
  exact TF.refl _
theorem qpW (id:Int)(t:Tm)(hs:t.size<=900000):PC CP 186 [t.v,i64 id] (qfl id t).v:=by
 refine PC.of2 (cf:=cf186) (np:=2) (args':=[t.v,i64 id]) (by kernel_rfl) (by kernel_rfl) rfl (by simp only[zap,qak];rfl) (by simp only[zam,qai];rfl) (fun lo=>rfl)
  ((qhw (Ad:=fun _=>True) (fun _=>rfl) (fun _=>rfl) (fun _=>rfl) (fun _=>rfl) t hs trivial (fun _ _ _ _=>trivial) (qrO id t.size) (fun _ _ _ _ _ _ h hn=>⟨h.1,za2 h.2 hn⟩)).mono fun n h E s=>?_)
 let s8:=qal (qal s (.cells [i64 id])) (.cells [bl false,bl false,bl false])
 obtain⟨s',H',e1,e2,⟨e3,e4⟩,e5,e6⟩:=h (s.next,s.heap) ⟨false,false,false⟩ E s8 ⟨rfl,by show s.next+1<s.next+1+1;omega⟩
 rw[qpV id t.size _ t 0 (zan _)] at e1 e2 e3
 simp only[za6] at e1 e2 e3
 have hnm:(⟨t.any (isA id) 0,t.any (isP id) 0,t.any (isH id) 0⟩:Nm)=qfl id t:=rfl
 rw[hnm] at e3
 have hN:s8.next=s.next+1+1:=rfl
 have hc7:qar (qag CP n E).E s' (qal s (.cells [i64 id])).next=some (qfl id t).c:=by
  rw[qa9,qiB e2 (by show s.next+1<s.next+1+1;omega),e3]
  exact qaS rfl
 have hst:stH s' (.ptr (qal s (.cells [i64 id])).next 0) (qfl id t).c=some s':=by
  have b1:Nat.beq (s8.next+1) (qal s (.cells [i64 id])).next=false:=beq_false (by show s.next+1+1+1≠s.next+1;omega)
  have b2:Nat.beq s8.next (qal s (.cells [i64 id])).next=false:=beq_false (by show s.next+1+1≠s.next+1;omega)
  have b3:Nat.beq (s.next+1) (qal s (.cells [i64 id])).next=true:=qaE rfl
  have ho:over (qfl id t).c 0 (qfl id t).c=some (qfl id t).c:=rfl
  have haw:(qfl id t).c.all qaY=true:=rfl
  have hs':s'.heap=(s8.next+1,.cells [bl false])::(s8.next,.cells [.func 203 [] [.ptr s.next 0,.ptr (s.next+1) 0]])::(s.next+1,.cells (qfl id t).c)::(s.next,.cells [i64 id])::s.heap:=by rw[e2,e3]
  simp only[stH,qbP,hs',qas,qaK,b1,b2,b3,cond_false,cond_true,haw,ho,zaa,zab]
  rw[<-hs']
 have e1':cl (qag CP n E) 159 [t.v,.func 203 [] [.ptr s.next 0,.ptr (qal s (.cells [i64 id])).next 0]] (qal (qal s (.cells [i64 id])) (.cells [bl false,bl false,bl false]))=some (bl false,s'):=e1
 have haw:[i64 id].all qaY=true:=rfl
 have haw3:[bl false,bl false,bl false].all qaY=true:=rfl
 have n1:ldL (qfl id t).c 0 (some 3)=some (qfl id t).v:=rfl
 have n2:zA.cells (some 3) (qfl id t).v=some (qfl id t).c:=rfl
 refine⟨(qfl id t).v,s',(s186_eq _ _ _ _ _).trans ?_,rfl⟩
 unfold s186
 simp only[haw,qby,e1',ldP hc7,n1,n2,hst,qah,qaU,zaa,qab,qa3,qbw,cnd]
end Go.AI.Tryz
namespace Go.AI
mutual
def w1F (id:Int)(val:Tm):Tm->Tm
 |.mk k n m i ks=>if i=id then(if k=3 then val else if k=4 then .az 1 (ks.headD .z) else if k=18 then(w1L id val ks).headD .z else .mk k n m i ks) else .mk k n m i ks
def w1L (id:Int)(val:Tm):List Tm->List Tm
 |[]=>[]
 |u::r=>w1F id val u::w1L id val r
end
mutual
def woF (id:Int)(val:Tm):Tm->Tm
 |.mk k n m i ks=>if i=id then(if k=3 then val else if k=4 then .az 1 ((woL id val ks).headD .z) else if k=18 then(woL id val ks).headD .z else .mk k n m i (woL id val ks)) else .mk k n m (if id<i then i-1 else i) (woL id val ks)
def woL (id:Int)(val:Tm):List Tm->List Tm
 |[]=>[]
 |u::r=>woF id val u::woL id val r
end
inductive AllN (P:Tm->Prop):Tm->Prop where
 |mk {t:Tm} (h:P t) (hk:∀u∈t.ks,AllN P u):AllN P t
theorem AllN.hd {P:Tm->Prop}{t:Tm}(h:AllN P t):P t:=by cases h with|mk h _=>exact h
theorem AllN.kid {P:Tm->Prop}{t u:Tm}(h:AllN P t)(hu:u∈t.ks):AllN P u:=by cases h with|mk _ h=>exact h u hu
theorem qpX (id:Int)(val t:Tm):w1F id val t=if t.i=id then(if t.k=3 then val else if t.k=4 then .az 1 (t.ks.headD .z) else if t.k=18 then(w1L id val t.ks).headD .z else t) else t:=by
 cases t;rw[w1F];rfl
theorem qtT (id:Int)(val t:Tm):woF id val t=if t.i=id then(if t.k=3 then val else if t.k=4 then .az 1 ((woL id val t.ks).headD .z) else if t.k=18 then(woL id val t.ks).headD .z else .mk t.k t.n t.m t.i (woL id val t.ks)) else .mk t.k t.n t.m (if id<t.i then t.i-1 else t.i) (woL id val t.ks):=by
 cases t;rw[woF];rfl
def NmK (id:Int)(t:Tm):Prop:=t.i=id->(t.k=3/\t.ks=[])\/(t.k=4/\t.n=0/\t.m=0/\∃u,t.ks=[u])\/(t.k=18/\∃u,t.ks=[u])
def qdu (id:Int)(t:Tm):Tm:=.mk t.k t.n t.m (if id<t.i then t.i-1 else t.i) t.ks
theorem qpY {id:Int}{val:Tm}(hv:val.i=0/\val.ks=[])(h0:1<=id)(f:Unit->Tm->Int->Unit×Tm):∀(d:Nat) (t:Tm),t.size<=d->AllN (NmK id) t->(∀u,u.size<t.size->AllN (NmK id) u->∀l,(f () u l).2=woF id val u)->
  ∀lab l,(qdu id (w1F id val t)).with (qfJ f lab l 0 () (qdu id (w1F id val t)).ks).2=woF id val t
 |0,t,h,_,_,_,_=>by have:=Tm.size_pos t;omega
 |d+1,t,h,hA,hf,lab,l=>by
  have hfk:∀(ks:List Tm) (j:Nat),(∀u∈ks,u.size<t.size/\AllN (NmK id) u)->(qfJ f lab l j () ks).2=woL id val ks:=by
   intro ks
   induction ks with
   |nil=>intro j _;rfl
   |cons u r ih=>
    intro j hu
    simp only[qfJ,woL]
    rw[hf u (hu u (zau ..)).1 (hu u (zau ..)).2,ih (j+1) fun v hv=>hu v (zax _ hv)]
  have hks:∀u∈t.ks,u.size<t.size/\AllN (NmK id) u:=fun u hu=>⟨by have:=Tm.sizeL_mem hu;rw[Tm.size_ks t];omega,hA.kid hu⟩
  rw[qpX,qtT]
  by_cases hi:t.i=id
  ·rw[if_pos hi,if_pos hi]
   rcases hA.hd hi with⟨hk,hu⟩|⟨hk,_,_,u,hu⟩|⟨hk,u,hu⟩
   ·rw[if_pos hk,if_pos hk]
    obtain⟨k,n,m,i,ks⟩:=val
    simp only[Tm.i,Tm.ks] at hv
    obtain⟨rfl,rfl⟩:=hv
    have hz:¬id<0:=by omega
    simp only[qdu,Tm.with,Tm.k,Tm.n,Tm.m,Tm.i,Tm.ks,qfJ,hz,if_false]
   ·rw[if_neg (by omega),if_pos hk,if_neg (by omega),if_pos hk,hu]
    have hm:u∈t.ks:=by rw[hu];exact zau ..
    have e:=hfk [u] 0 (by rw[<-hu];exact hks)
    have hz:¬id<0:=by omega
    simp only[qdu,Tm.with,Tm.k,Tm.n,Tm.m,Tm.i,Tm.ks,hz,if_false,zbh]
    rw[e]
    simp only[woL,zbh]
   ·rw[if_neg (by omega),if_neg (by omega),if_pos hk,if_neg (by omega),if_neg (by omega),if_pos hk,hu]
    have hm:u∈t.ks:=by rw[hu];exact zau ..
    have hus:=(hks u hm).1
    simp only[w1L,woL,zbh]
    exact qpY hv h0 f d u (by omega) (hA.kid hm) (fun v hvs=>hf v (by omega)) lab l
  ·rw[if_neg hi,if_neg hi]
   have e:=hfk t.ks 0 hks
   simp only[qdu,Tm.with,Tm.k,Tm.n,Tm.m,Tm.i,Tm.ks_mk]
   rw[e]
theorem qpZ {id:Int}{val:Tm}(hv:val.i=0/\val.ks=[])(h0:1<=id):∀(d:Nat) (t:Tm) (l:Int),t.size<=d->AllN (NmK id) t->(qc9 (fun(x:Unit) t l=>(x,qdu id (w1F id val t),true)) d () t l).2=woF id val t
 |0,t,l,h,_=>by have:=Tm.size_pos t;omega
 |d+1,t,l,h,hA=>by
  simp only[qc9,if_true]
  exact qpY hv h0 _ (d+1) t h hA (fun u hu hAu l=>qpZ hv h0 d u l (by omega) hAu) _ _
theorem qp0 {id:Int}{val:Tm}(hv:val.size=1):∀(d:Nat) (t:Tm),t.size<=d->AllN (NmK id) t->(w1F id val t).size<=t.size
 |0,t,h,_=>by have:=Tm.size_pos t;omega
 |d+1,t,h,hA=>by
  rw[qpX]
  split
  ·rename_i hi
   rcases hA.hd hi with⟨hk,_⟩|⟨hk,_,_,u,hu⟩|⟨hk,u,hu⟩
   ·rw[if_pos hk,hv];exact Tm.size_pos t
   ·rw[if_neg (by omega),if_pos hk,hu,Tm.size_ks t,hu]
    simp only[zbh,Tm.size_ks,Tm.ks,Tm.sizeL];omega
   ·rw[if_neg (by omega),if_neg (by omega),if_pos hk,hu]
    have hm:u∈t.ks:=by rw[hu];exact zau ..
    have hlt:=Tm.sizeL_mem hm
    have ht:=Tm.size_ks t
    have:=qp0 hv d u (by omega) (hA.kid hm)
    simp only[w1L,zbh]
    omega
  ·exact zan _
theorem qp1 {id:Int}{val:Tm}(hv:val.ks=[])(P:Tm->Prop):∀(d:Nat) (t:Tm),t.size<=d->AllN (NmK id) t->AllN P t->∀u∈(w1F id val t).ks,AllN P u
 |0,t,h,_,_=>by have:=Tm.size_pos t;omega
 |d+1,t,h,hA,hP=>by
  rw[qpX]
  split
  ·rename_i hi
   rcases hA.hd hi with⟨hk,_⟩|⟨hk,_,_,u,hu⟩|⟨hk,u,hu⟩
   ·rw[if_pos hk,hv];intro u hu;cases hu
   ·rw[if_neg (by omega),if_pos hk,hu]
    intro v hv
    simp only[zbh,Tm.ks,zaV] at hv
    subst hv
    exact hP.kid (by rw[hu];exact zau ..)
   ·rw[if_neg (by omega),if_neg (by omega),if_pos hk,hu]
    have hm:u∈t.ks:=by rw[hu];exact zau ..
    have hlt:=Tm.sizeL_mem hm
    have ht:=Tm.size_ks t
    simp only[w1L,zbh]
    exact qp1 hv P d u (by omega) (hA.kid hm) (hP.kid hm)
  ·exact fun u hu=>hP.kid hu
end Go.AI
namespace Go.AI
theorem AllN.imp {P P':Tm->Prop}(h:∀t,P t->P' t){t:Tm}(a:AllN P t):AllN P' t:=by
 induction t using Tm.ind with
 |h k n m i ks ih=>exact .mk (h _ a.hd) fun u hu=>ih u hu (a.kid hu)
end Go.AI
namespace Go.AI.Tryz
abbrev Big (t:Tm):Prop:=t.i<=9223372036854775807
section
variable {ι:Type} {bv:ι->zA} {Cb:ι->qaR->ASt->Prop} {Pb:Tm->Prop} {id:Int} {val:Tm}
def b1F (val:Tm)(t:Tm):Tm:=if t.k=3 then val else if t.k=4 then .az 1 (t.ks.headD .z) else t.ks.headD .z
theorem qxE (hv:val.i=0/\val.ks=[])(h0:1<=id)(hPb:∀t,Pb t->NmK id t/\Big t)(hS:∀p,Stab (Cb p))(d:Nat)
  (hb:Ev fun n=>∀p E s t,Cb p E s->Pb t->t.i=id->clv (qag CP n E) (bv p) [t.v] s=some ((b1F val t).v,s)):
  Ev fun n=>∀l6 l9 p E s t l,qar E s l6=some [i64 id]->qar E s l9=some [bv p]->Cb p E s->t.size<=d->AllN Pb t->cl (qag CP n E) 204 [t.v,i64 l,.ptr l6 0,.ptr l9 0] s=some (.tuple [(qdu id (w1F id val t)).v,bl true],s):=by
 refine Ev.succ ((hb.and (Ev.ge (d+3))).mono fun n ⟨hb,hn⟩ l6 l9 p E s t l h6 h9 hc hs hA=>?_)
 rw[qb4]
 have h6':qar (qag CP n (s.heap++E)).E {s with heap:=[],toks:=[]} l6=some [i64 id]:=by rw[qa9,qev];exact h6
 have h9':qar (qag CP n (s.heap++E)).E {s with heap:=[],toks:=[]} l9=some [bv p]:=by rw[qa9,qev];exact h9
 have hb':=fun t=>hb p (s.heap++E) {s with heap:=[],toks:=[]} t (hS p E s hc)
 suffices hrun:s204 (qag CP n (s.heap++E)) n t.v (i64 l) (.ptr l6 0) (.ptr l9 0) {s with heap:=[],toks:=[]}=some (.tuple [(qdu id (w1F id val t)).v,bl true],{s with heap:=[],toks:=[]}) from
  qhc (cf:=cf204) (np:=4) (args':=[t.v,i64 l,.ptr l6 0,.ptr l9 0]) (by kernel_rfl) (by kernel_rfl) rfl (by simp only[zap,qak];rfl) (by simp only[zam,qai];rfl) ((s204_eq _ _ _ _ _ _ _).trans hrun) (qb5 _ _) (qcf _ _ _)
 generalize ({s with heap:=[],toks:=[]}:ASt)=s0 at h6' h9' hb'⊢
 generalize s.heap++E=E0 at h6' h9' hb'⊢
 unfold s204
 simp only[qah,zaa]
 unfold s204_1
 generalize hF:(fun(h9:List zA->List zA->ASt->Res) (c6 c7:List zA) (s8:ASt)=>_)=F
 have hex:∀(t:Tm) (k:Nat),t.i≠id->Big t->lp (fun _ _ _=>none) F (k+1) t.c [u8 0,i64 0,i64 0,i64 0,.sl 0 [] .full] s0=some (.tuple [(qdu id t).v,bl true],s0):=by
  intro t k hne hbig
  rw[qa6]
  generalize lp _ F k=L
  subst hF
  unfold s204_0 qdu
  by_cases hgt:id<t.i
  ·have hw:qbb .i64 (t.i-1)=t.i-1:=qbu (by omega) (by omega)
   have ho:∀z:Int,over t.c 3 [i64 z]=some (Tm.mk t.k t.n t.m z t.ks).c:=fun _=>rfl
   simp only[hne,hgt,ldP h6',qdb,hw,ho,qby,if_true,qah,qaU,qcL,qav,qad,qaf,qaG,qa2,decide_true,decide_false,qaa,cond_true,cond_false,qaj,zab,zaa]
  ·simp only[hne,hgt,ldP h6',qdb,if_false,qsG,qah,qaU,qcL,qav,qad,qaf,qaG,qa2,decide_false,qaa,cond_false,qaj,zab,zaa]
 have key:∀(d:Nat) (t:Tm) (k:Nat),t.size<=d->d+1<k->AllN Pb t->lp (fun _ _ _=>none) F k t.c [u8 0,i64 0,i64 0,i64 0,.sl 0 [] .full] s0=some (.tuple [(qdu id (w1F id val t)).v,bl true],s0):=by
  intro d
  induction d with
  |zero=>intro t k h;have:=Tm.size_pos t;omega
  |succ d ih=>
   intro t k hs hk hA
   obtain⟨k,rfl⟩:∃m,k=m+2:=⟨k-2,by omega⟩
   by_cases hi:t.i=id
   ·have hcl:=hb' t hA.hd hi
    have hstep:lp (fun _ _ _=>none) F (k+1) (b1F val t).c [u8 0,i64 0,i64 0,i64 0,.sl 0 [] .full] s0=some (.tuple [(qdu id (w1F id val t)).v,bl true],s0):=by
     rw[qpX,if_pos hi]
     unfold b1F
     rcases(hPb t hA.hd).1 hi with⟨hk3,hu⟩|⟨hk4,_,_,u,hu⟩|⟨hk18,u,hu⟩
     ·rw[if_pos hk3,if_pos hk3]
      exact hex val k (by omega) (by show val.i<=_;omega)
     ·rw[if_neg (by omega),if_pos hk4,if_neg (by omega),if_pos hk4]
      exact hex (.az 1 (t.ks.headD .z)) k (by show(0:Int)≠id;omega) (by show(0:Int)<=_;omega)
     ·rw[if_neg (by omega),if_neg (by omega),if_neg (by omega),if_neg (by omega),if_pos hk18,hu]
      have hm:u∈t.ks:=by rw[hu];exact zau ..
      have hlt:=Tm.sizeL_mem hm
      have ht:=Tm.size_ks t
      exact ih u (k+1) (by omega) (by omega) (hA.kid hm)
    rw[qa6]
    generalize lp _ F (k+1)=L at hstep⊢
    subst hF
    simp only[hi,ldP h6',ldP h9',qdb,hcl,qah,qaU,qcL,qpJ,qad,qaf,qaG,qa2,decide_true,qaa,cond_true,qaj,zab,zaa,qab]
    have hx:ldL [bv p] 0 none=some (bv p):=rfl
    exact hstep
   ·rw[qpX,if_neg hi]
    exact hex t (k+1) hi (hPb t hA.hd).2
 exact key d t n hs (by omega) hA
theorem qhx (hv:val.i=0/\val.ks=[]/\val.size=1)(h0:1<=id)(hPb:∀t,Pb t->NmK id t/\Big t)(hS:∀p,Stab (Cb p))(hN:∀p E s o,Cb p E s->Cb p E (qal s o))(hH:∀p E s s',Cb p E s->s'.heap=s.heap->s'.next=s.next->Cb p E s')
  (ha:∀p,qaY (bv p)=true)(hw:∀p,qbF (bv p)=true)(hce:∀p,zA.cells none (bv p)=some [bv p])(he:∀p,qaD (bv p)=bv p)
  (t:Tm)(hs:t.size<=900000)(hA:AllN Pb t)
  (hb:Ev fun n=>∀p E s t,Cb p E s->Pb t->t.i=id->clv (qag CP n E) (bv p) [t.v] s=some ((b1F val t).v,s)):
  Ev fun n=>∀p E s,Cb p E s->cl (qag CP n E) 188 [t.v,i64 id,bv p] s=some ((woF id val t).v,s):=by
 have hNmA:∀t,AllN Pb t->AllN (NmK id) t:=fun t h=>h.imp fun t h=>(hPb t h).1
 have hmap:=qd6 (κ:=Nat×Nat×ι) (R:=fun q (_:Unit) E s=>qar E s q.1=some [i64 id]/\qar E s q.2.1=some [bv q.2.2]/\Cb q.2.2 E s) (fv:=fun q=> .func 204 [] [.ptr q.1 0,.ptr q.2.1 0]) (by_:=fun x t l=>(x,qdu id (w1F id val t),true)) (Ad:=AllN Pb)
  (fun q x E s s' ⟨r1,r2,r3⟩ e1 e2=>⟨by rw[qeA e1];exact r1,by rw[qeA e1];exact r2,hH _ E s s' r3 e1 e2⟩) (fun _=>rfl) (fun _=>rfl)
  (fun x t l hA _=>⟨by
    have:=qp0 (id:=id) (val:=val) hv.2.2 t.size t (zan _) (hNmA t hA)
    simp only[qdu,Tm.size_ks,Tm.ks_mk] at this⊢
    exact this,fun u hu=>qp1 hv.2.1 Pb t.size t (zan _) (hNmA t hA) hA u (by simpa only[qdu,Tm.ks_mk] using hu)⟩) t.size
  (((qxE ⟨hv.1,hv.2.1⟩ h0 hPb hS t.size hb).and (Ev.ge 1)).mono fun n ⟨h,hn⟩ q x E s t l h1 h2 h3 h4 ⟨r1,r2,r3⟩=>⟨s,by
    rw[qh0 CP hn]
    exact h q.1 q.2.1 q.2.2 E s t l r1 r2 r3 h1 h2,⟨r1,r2,r3⟩,TF.refl s⟩)
 refine Ev.succ (hmap.mono fun n h p E s hc=>?_)
 rw[qb4]
 let s0:ASt:={s with heap:=[],toks:=[]}
 have hc0:=hS p E s hc
 have hc1:=hN p _ _ (.cells [bv p]) (hN p _ _ (.cells [i64 id]) hc0)
 obtain⟨s',e1,_,_⟩:=h (s0.next,(qal s0 (.cells [i64 id])).next,p) () (s.heap++E) (qal (qal s0 (.cells [i64 id])) (.cells [bv p])) t 0 (zan _) hA (by omega) (by omega) ⟨qdA _ _ _ _,qaO _ _ _,hc1⟩
 have e:=qpZ (id:=id) (val:=val) ⟨hv.1,hv.2.1⟩ h0 t.size t 0 (zan _) (hNmA t hA)
 rw[e] at e1
 refine qhc (cf:=cf188) (np:=3) (args':=[t.v,i64 id,bv p]) (v:=(woF id val t).v) (s':=s') (by kernel_rfl) (by kernel_rfl) rfl (by simp only[zap,qak,hw];rfl) (by simp only[zam,qai,he];rfl) ((s188_eq _ _ _ _ _ _).trans ?_) (qai _) (qaM _ _)
 have haw:[bv p].all qaY=true:=by simp only[zap,ha,List.all_nil,zat]
 have haw2:[i64 id].all qaY=true:=rfl
 have e2:cl (qag CP n (s.heap++E)) 108 [t.v,i64 0,.func 204 [] [.ptr s.next 0,.ptr (qal {s with heap:=[],toks:=[]} (.cells [i64 id])).next 0]] (qal (qal {s with heap:=[],toks:=[]} (.cells [i64 id])) (.cells [bv p]))=some ((woF id val t).v,s'):=e1
 unfold s188
 simp only[hce,haw,haw2,qby,e2,qah,qaU,qav,zaa,qab,qa3,qbw,cnd]
def clR (x:Sc)(ok:Nm->Bool)(val:Tm)(t:Tm):Option Tm:=if t.k=10 then(match t.ks with|[u]=>if ok (qfl (Int.ofNat x.ids.length+1) u) then some (woF (Int.ofNat x.ids.length+1) val u) else none|_=>none) else none
theorem qtU (x:Vw)(hl:x.sz.length<=1000000):PC CP 187 [x.v] (i64 (Int.ofNat x.sz.length+1)):=by
 refine PC.of2 (cf:=cf187) (np:=1) (args':=[x.v]) (by kernel_rfl) (by kernel_rfl) rfl (by first|rfl|(simp only[zap,qak,qb9];rfl)) (by first|rfl|(simp only[zam,qai,qca];rfl)) (fun lo=>by first|rfl|exact qaM lo _|exact qaW lo _|exact qcf lo _ _) (Ev.mono (ev0) fun N _ E s=>⟨i64 (Int.ofNat x.sz.length+1),s,(s187_eq _ _ _ _).trans ?_,(by first|rfl|exact qai _|exact qaP _|exact qb5 _ _)⟩)
 have hw:qbb .i64 (Int.ofNat x.sz.length+1)=Int.ofNat x.sz.length+1:=qbu (by simp only[zaf];omega) (by simp only[zaf];omega)
 unfold s187
 simp only[hw,qaH,quK,qad,qaw,zab,zaa,qbq]
theorem qf2 (x:Sc)(t:Tm)(g:Gd x t)(hs:t.size<=900000)(f:Nat)(ok:Nm->Bool)(hok:∀y:Nm,PC CP f [y.v] (bl (ok y)))
  (hw:∀p,qbF (bv p)=true)(he:∀p,qaD (bv p)=bv p)(hS:∀p,Stab (Cb p))
  (hwo:∀u,t.k=10->t.ks=[u]->ok (qfl (Int.ofNat x.ids.length+1) u)=true->Ev fun n=>∀p E s,Cb p E s->cl (qag CP n E) 188 [u.v,i64 (Int.ofNat x.ids.length+1),bv p] s=some ((woF (Int.ofNat x.ids.length+1) val u).v,s)):
  Ev fun n=>∀p E s,Cb p E s->cl (qag CP n E) 148 [(vw x t).v,.p (.func f [] []),bv p] s=some (qc8 (clR x ok val t),s):=by
 suffices Ev fun n=>∀p E s,Cb p E s->∃s',s148 (qag CP n E) n (vw x t).v (.p (.func f [] [])) (bv p) s=some (qc8 (clR x ok val t),s') by
  refine Ev.succ (this.mono fun n h p E s hc=>?_)
  obtain⟨s',e⟩:=h p _ _ (hS p E s hc)
  rw[qb4]
  exact qhc (cf:=cf148) (np:=3) (args':=[(vw x t).v,.p (.func f [] []),bv p]) (by kernel_rfl) (by kernel_rfl) rfl (by simp only[zap,qb9,hw];rfl) (by simp only[zam,qca,he];rfl) ((s148_eq _ _ _ _ _ _).trans e) (qaP _) (qaW _ _)
 have hsl:(vw x t).sz.length=x.ids.length:=by simp only[vw,zaZ]
 by_cases hk:t.k=10
 ·cases g.sh with
  |new n0 m0 u=>
   have su:u.size<(Tm.new n0 m0 u).size:=qa5 (by simp[Tm.ks])
   have e:clR x ok val (.new n0 m0 u)=if ok (qfl (Int.ofNat x.ids.length+1) u) then some (woF (Int.ofNat x.ids.length+1) val u) else none:=rfl
   rw[e]
   clear e
   generalize hid:(Int.ofNat x.ids.length+1:Int)=id at hwo⊢
   have hcell:PC CP 187 [(vw x (.new n0 m0 u)).v] (i64 id):=by
    have:=qtU (vw x (.new n0 m0 u)) (by rw[hsl];exact g.l)
    rw[hsl,hid] at this
    exact this
   have hwo':=hwo u rfl rfl
   have hokn:=hok (qfl id u)
   generalize ok (qfl id u)=q at hwo' hokn⊢
   cases q with
   |false=>
    refine(((qdx (vw x (.new n0 m0 u)) 10).and (hcell.and ((qpW id u (by omega)).and (hokn.and (nothing_c.and (Ev.ge 1)))))).mono fun N ⟨h1,h2,h3,h4,h5,hn⟩ p E s hc=>⟨s,?_⟩)
    obtain⟨i0,l0⟩:=qb8 (n:=N) (E:=E) (l:=[u]) (u:=u) rfl
    unfold s148 s148_0
    simp only[h1,i0,l0,h2,h3,qgk CP hn,h4,h5,zai,if_false,qah,qaU,qav,qaH,qch,qco,vwt,decide_true,zak,zal,qaa,cond_true,cond_false,qaj,zaa,qab,qan,qax,qay,qam,Tm.k_mk,Tm.ks_mk,qaC,zaR,zaG]
   |true=>
    refine(((qdx (vw x (.new n0 m0 u)) 10).and (hcell.and ((qpW id u (by omega)).and (hokn.and ((hwo' rfl).and (Ev.ge 1)))))).mono fun N ⟨h1,h2,h3,h4,h5,hn⟩ p E s hc=>⟨s,?_⟩)
    obtain⟨i0,l0⟩:=qb8 (n:=N) (E:=E) (l:=[u]) (u:=u) rfl
    have h5':=h5 p E s hc
    unfold s148 s148_0
    simp only[h1,i0,l0,h2,h3,qgk CP hn,h4,h5',if_true,qah,qaU,qav,qaH,qch,qco,vwt,decide_true,zak,qaa,cond_true,cond_false,qaj,zaa,qab,qam,Tm.k_mk,Tm.ks_mk,qaC,zaE,zbj]
  |_=>simp only[Tm.k_mk] at hk;omega
 ·have e:clR x ok val t=none:=by unfold clR;rw[if_neg hk]
  rw[e]
  refine((qdx (vw x t) 10).and nothing_c).mono fun N ⟨h1,h5⟩ p E s hc=>⟨s,?_⟩
  unfold s148 s148_0
  simp only[h1,h5,hk,qah,qaU,qav,qaH,qch,qco,vwt,decide_false,zal,qaa,cond_true,qaj,zaa,qab,qan,qax,qay,qam,qaC,zaR,zaG]
end
end Go.AI.Tryz
namespace Go.AI
theorem Sc.get_with {x:Sc}{y:Se}{i:Int}{e:Se}(h:x.get i=some e):(x.with y).get i=some e:=by
 obtain⟨j,hi,hj⟩:=Sc.get_inv h
 have hjl:=(zao.1 hj).1
 unfold Sc.get Sc.with
 rw[if_neg (by simp only[zaf] at hi;omega)]
 have:(i-1).toNat=j:=by simp only[zaf] at hi;omega
 rw[this]
 simp only[zaP hjl]
 exact hj
theorem Sc.get_last {x:Sc}{y:Se}:(x.with y).get (Int.ofNat x.ids.length+1)=some y:=by
 unfold Sc.get Sc.with
 rw[if_neg (by simp only[zaf];omega)]
 have:(Int.ofNat x.ids.length+1-1).toNat=x.ids.length:=by simp only[zaf];omega
 rw[this]
 simp only[List.getElem?_concat_length]
theorem qd9 {is:Tm->Int->Bool}(hl:∀t l l',is t l=is t l'){t:Tm}:∀{l:Int},t.any is l=false->AllN (fun t=>is t 0=false) t:=by
 induction t using Tm.ind with
 |h k n m i ks ih=>
  intro l h
  rw[Tm.any_eq,zaU] at h
  refine .mk (by rw[hl _ 0 l];exact h.1) ?_
  have hk:∀(r:List Tm) (j:Nat),(∀u∈r,u∈ks)->Tm.anyK is (decide ((Tm.mk k n m i ks).k=11)) l j r=false->∀u∈r,AllN (fun t=>is t 0=false) u:=by
   intro r
   induction r with
   |nil=>intro j _ _ u hu;cases hu
   |cons v r ih2=>
    intro j hm ha u hu
    simp only[Tm.anyK,zaU] at ha
    rcases zaA.1 hu with rfl|hu
    ·exact ih u (hm u (zau ..)) ha.1
    ·exact ih2 (j+1) (fun w hw=>hm w (zax _ hw)) ha.2 u hu
  exact hk ks 0 (fun _ h=>h) h.2
theorem AllN.and {P Q:Tm->Prop}{t:Tm}(h:AllN P t)(k:AllN Q t):AllN (fun t=>P t/\Q t) t:=by
 induction t using Tm.ind with
 |h _ _ _ _ ks ih=>exact .mk ⟨h.hd,k.hd⟩ fun u hu=>ih u hu (h.kid hu) (k.kid hu)
end Go.AI
namespace Go.AI.Tryz
def qoc (id:Int)(t:Tm):Prop:=(t.i=id->t.k=3\/t.k=4\/t.k=18\/t.k=16)/\Sh t/\Big t
theorem Tm.Ok.big {t:Tm}(h:t.Ok):Big t:=by cases h with|mk _ _ _ hi _ _=>exact hi.2
theorem qf3 {f:Tm->Bs->Bool}:∀{ks:List Tm} {ps:List Bs},qbv f ks ps=true->∀u∈ks,∃b∈ps,f u b=true
 |[],_,_,u,hu=>by cases hu
 |_::_,[],h,_,_=>by simp[qbv] at h
 |k::ks,b::ps,h,u,hu=>by
  simp only[qbv,zag] at h
  rcases zaA.1 hu with rfl|hu
  ·exact⟨b,zau ..,h.1⟩
  ·obtain⟨c,hc,hf⟩:=qf3 h.2 u hu
   exact⟨c,zax _ hc,hf⟩
theorem qfE {x:Sc}{t:Tm}{b:Bs}(h:qdy szF x t b=true):(szF x t=(b.n,true))\/(∃i e,t=.cel i/\x.get i=some e/\e.ty.res.cell=true/\e.ty.res.n=b.n/\b.cell=true)\/(∃u w,t=.obj u w/\szF x u=(b.n,true)/\szF (x.with ⟨⟨[],⟨false,b.n⟩⟩,true⟩) w=(1,true)/\b.cell=true):=by
 unfold qdy at h
 split at h
 ·rename_i hc
  rw[zag] at h
  obtain⟨hok,h⟩:=h
  have hsh:=qlZ hok
  split at h
  ·rename_i h16
   cases hsh with
   |cel i=>
    simp only[Tm.i_mk] at h
    cases he:x.get i with
    |none=>rw[he] at h;cases h
    |some e=>
     rw[he] at h
     simp only[zag,decide_eq_true_eq] at h
     exact .inr (.inl ⟨i,e,rfl,he,h.1,h.2,hc⟩)
   |_=>simp only[Tm.k_mk] at h16;omega
  ·split at h
   ·rename_i h17
    cases hsh with
    |obj u w=>
     simp only[Tm.ks_mk,zag,decide_eq_true_eq] at h
     exact .inr (.inr ⟨u,w,rfl,Prod.ext h.1.2 h.1.1,Prod.ext h.2.2 h.2.1,hc⟩)
    |_=>simp only[Tm.k_mk] at h17;omega
   ·cases h
 ·simp only[zag,decide_eq_true_eq] at h
  exact .inl (Prod.ext h.2 h.1)
def Cl (x:Sc)(id:Int):Prop:=∃e,x.get id=some e/\e.ty.res.cell=true/\e.arg=false
theorem Cl.with {x:Sc}{id:Int}(h:Cl x id)(y:Se):Cl (x.with y) id:=by
 obtain⟨e,h1,h2⟩:=h
 exact⟨e,Sc.get_with h1,h2⟩
theorem Cl.size {x:Sc}{id n:Int}(h:Cl x id):Cl {x with size:=n} id:=h
theorem qnb {id:Int}(h0:1<=id):∀(d:Nat) (t:Tm) (x:Sc),t.size<=d->t.Ok->Cl x id->((szF x t).2=true\/∃b,qdy szF x t b=true)->AllN (qoc id) t
 |0,t,_,h,_,_,_=>by have:=Tm.size_pos t;omega
 |d+1,t,x,hd,hok,hc,h=>by
  have hb:=Tm.Ok.big hok
  have IH:∀u∈t.ks,∀y,Cl y id->((szF y u).2=true\/∃b,qdy szF y u b=true)->AllN (qoc id) u:=fun u hu y hy hs=>qnb h0 d u y (by have:=qa5 hu;omega) (hok.kids u hu) hy hs
  have harg:∀b,qdy szF x t b=true->(szF x t).2=true\/(∃i,t=.cel i)\/(∃u w,t=.obj u w/\szF x u=(b.n,true)/\szF (x.with ⟨⟨[],⟨false,b.n⟩⟩,true⟩) w=(1,true)):=by
   intro b hb
   rcases qfE hb with h|⟨i,e,h,_⟩|⟨u,w,h1,h2,h3,_⟩
   ·exact .inl (by rw[h])
   ·exact .inr (.inl ⟨i,h⟩)
   ·exact .inr (.inr ⟨u,w,h1,h2,h3⟩)
  have hcase:(szF x t).2=true\/(∃i,t=.cel i)\/(∃u w,∃b:Bs,t=.obj u w/\szF x u=(b.n,true)/\szF (x.with ⟨⟨[],⟨false,b.n⟩⟩,true⟩) w=(1,true)):=by
   rcases h with h|⟨b,h⟩
   ·exact .inl h
   ·rcases harg b h with h|h|⟨u,w,h⟩
    ·exact .inl h
    ·exact .inr (.inl h)
    ·exact .inr (.inr ⟨u,w,b,h⟩)
  obtain⟨e,he,hcl,hna⟩:=hc
  have hc:Cl x id:=⟨e,he,hcl,hna⟩
  rcases hcase with h|⟨i,rfl⟩|⟨u,w,b,rfl,h1,h2⟩
  ·have hsh:=qdj h
   cases hsh with
   |num n m=>exact .mk ⟨fun hi=>by simp only[Tm.i_mk] at hi;omega,.num ..,hb⟩ fun u hu=>by cases hu
   |use i ks=>
    rw[qgl] at h
    refine .mk ⟨fun hi=>?_,.use ..,hb⟩ fun u hu=>?_
    ·simp only[Tm.i_mk] at hi
     subst hi
     rw[he] at h
     simp[hcl] at h
    ·simp only[zag] at h
     obtain⟨b,_,hf⟩:=qf3 h.2.2.2 u hu
     exact IH u hu x hc (.inr ⟨b,hf⟩)
   |get i=>exact .mk ⟨fun hi=> .inl rfl,.get ..,hb⟩ fun u hu=>by cases hu
   |put i u=>
    rw[qeW,zag,is2_iff] at h
    exact .mk ⟨fun hi=> .inr (.inl rfl),.put ..,hb⟩ fun v hv=>by
     simp only[Tm.ks_mk,zaV] at hv
     subst hv
     exact IH v (by simp[Tm.ks]) x hc (.inl (by rw[h.2]))
   |op n m u w=>
    rw[qeQ] at h
    have hin:is2 (szF x u) m=true/\is2 (szF x w) m=true:=by
     split at h
     ·simp only[zag] at h⊢;exact h.2
     ·split at h
      ·simp only[zag] at h⊢;exact h.2
      ·cases h
    rw[is2_iff,is2_iff] at hin
    exact .mk ⟨fun hi=>by simp only[Tm.i_mk] at hi;omega,.op ..,hb⟩ fun v hv=>by
     simp only[Tm.ks_mk,zaA,zaD,or_false] at hv
     rcases hv with rfl|rfl
     ·exact IH v (by simp[Tm.ks]) x hc (.inl (by rw[hin.1]))
     ·exact IH v (by simp[Tm.ks]) x hc (.inl (by rw[hin.2]))
   |az n u=>
    rw[qeR,zag] at h
    exact .mk ⟨fun hi=>by simp only[Tm.i_mk] at hi;omega,.az ..,hb⟩ fun v hv=>by
     simp only[Tm.ks_mk,zaV] at hv
     subst hv
     exact IH v (by simp[Tm.ks]) x hc (.inl h.1)
   |seq u w=>
    rw[qb2,zag,is2_iff] at h
    exact .mk ⟨fun hi=>by simp only[Tm.i_mk] at hi;omega,.seq ..,hb⟩ fun v hv=>by
     simp only[Tm.ks_mk,zaA,zaD,or_false] at hv
     rcases hv with rfl|rfl
     ·exact IH v (by simp[Tm.ks]) x hc (.inl (by rw[h.2]))
     ·exact IH v (by simp[Tm.ks]) x hc (.inl h.1)
   |ite c u w=>
    rw[qcA,zag,zag,is2_iff] at h
    exact .mk ⟨fun hi=>by simp only[Tm.i_mk] at hi;omega,.ite ..,hb⟩ fun v hv=>by
     simp only[Tm.ks_mk,zaA,zaD,or_false] at hv
     rcases hv with rfl|rfl|rfl
     ·exact IH v (by simp[Tm.ks]) x hc (.inl h.2)
     ·exact IH v (by simp[Tm.ks]) x hc (.inl h.1.1)
     ·exact IH v (by simp[Tm.ks]) x hc (.inl (by rw[h.1.2]))
   |whl u w=>
    rw[qfD,zag,is2_iff] at h
    exact .mk ⟨fun hi=>by simp only[Tm.i_mk] at hi;omega,.whl ..,hb⟩ fun v hv=>by
     simp only[Tm.ks_mk,zaA,zaD,or_false] at hv
     rcases hv with rfl|rfl
     ·exact IH v (by simp[Tm.ks]) x hc (.inl h.1)
     ·exact IH v (by simp[Tm.ks]) x hc (.inl (by rw[h.2]))
   |new n m u=>
    rw[qeX,zag] at h
    exact .mk ⟨fun hi=>by simp only[Tm.i_mk] at hi;omega,.new ..,hb⟩ fun v hv=>by
     simp only[Tm.ks_mk,zaV] at hv
     subst hv
     exact IH v (by simp[Tm.ks]) _ (hc.with _) (.inl h.1)
   |lbl u w=>
    rw[qew,zag,is2_iff] at h
    exact .mk ⟨fun hi=>by simp only[Tm.i_mk] at hi;omega,.lbl ..,hb⟩ fun v hv=>by
     simp only[Tm.ks_mk,zaA,zaD,or_false] at hv
     rcases hv with rfl|rfl
     ·exact IH v (by simp[Tm.ks]) {x with size:=x.size+1} hc (.inl h.1)
     ·exact IH v (by simp[Tm.ks]) x hc (.inl (by rw[h.2]))
   |jmp n=>exact .mk ⟨fun hi=>by simp only[Tm.i_mk] at hi;omega,.jmp ..,hb⟩ fun u hu=>by cases hu
   |cho u w=>
    rw[qex,zag,is2_iff] at h
    exact .mk ⟨fun hi=>by simp only[Tm.i_mk] at hi;omega,.cho ..,hb⟩ fun v hv=>by
     simp only[Tm.ks_mk,zaA,zaD,or_false] at hv
     rcases hv with rfl|rfl
     ·exact IH v (by simp[Tm.ks]) x hc (.inl h.1)
     ·exact IH v (by simp[Tm.ks]) x hc (.inl (by rw[h.2]))
   |hang=>exact .mk ⟨fun hi=>by simp only[Tm.i_mk] at hi;omega,.hang,hb⟩ fun u hu=>by cases hu
   |val i=>
    rw[qhs] at h
    refine .mk ⟨fun hi=>?_,.val ..,hb⟩ fun u hu=>by cases hu
    simp only[Tm.i_mk] at hi
    subst hi
    rw[he] at h
    simp[hna] at h
   |cel i=>rw[qeY] at h;cases h
   |obj u w=>rw[qdQ] at h;cases h
   |ntc n i u=>
    rw[qey,zag] at h
    exact .mk ⟨fun hi=> .inr (.inr (.inl rfl)),.ntc ..,hb⟩ fun v hv=>by
     simp only[Tm.ks_mk,zaV] at hv
     subst hv
     exact IH v (by simp[Tm.ks]) x hc (.inl h.1)
  ·exact .mk ⟨fun hi=> .inr (.inr (.inr rfl)),.cel ..,hb⟩ fun u hu=>by cases hu
  ·exact .mk ⟨fun hi=>by simp only[Tm.i_mk] at hi;omega,.obj ..,hb⟩ fun v hv=>by
    simp only[Tm.ks_mk,zaA,zaD,or_false] at hv
    rcases hv with rfl|rfl
    ·exact IH v (by simp[Tm.ks]) x hc (.inl (by rw[h1]))
    ·exact IH v (by simp[Tm.ks]) _ (hc.with _) (.inl (by rw[h2]))
end Go.AI.Tryz
namespace Go.AI.Tryz
def okU (y:Nm):Bool:=!y.a&&(!y.p&&!y.h)
def qrP (y:Nm):Bool:=y.a&&(!y.p&&!y.h)
def qrQ (y:Nm):Bool:=!y.a&&(y.p&&!y.h)
theorem qxF (y:Nm):PC CP 149 [y.v] (bl (okU y)):=by
 refine PC.of2 (cf:=cf149) (np:=1) (args':=[y.v]) (by kernel_rfl) (by kernel_rfl) rfl (by first|rfl|(simp only[zap,qak,qb9];rfl)) (by first|rfl|(simp only[zam,qai,qca];rfl)) (fun lo=>by first|rfl|exact qaM lo _|exact qaW lo _|exact qcf lo _ _) (Ev.mono (ev0) fun N _ E s=>⟨bl (okU y),s,(s149_eq _ _ _ _).trans ?_,(by first|rfl|exact qai _|exact qaP _|exact qb5 _ _)⟩)
 obtain⟨a,p,h⟩:=y
 cases a<;>cases p<;>cases h<;>rfl
theorem qvO (y:Nm):PC CP 150 [y.v] (bl (qrP y)):=by
 refine PC.of2 (cf:=cf150) (np:=1) (args':=[y.v]) (by kernel_rfl) (by kernel_rfl) rfl (by first|rfl|(simp only[zap,qak,qb9];rfl)) (by first|rfl|(simp only[zam,qai,qca];rfl)) (fun lo=>by first|rfl|exact qaM lo _|exact qaW lo _|exact qcf lo _ _) (Ev.mono (ev0) fun N _ E s=>⟨bl (qrP y),s,(s150_eq _ _ _ _).trans ?_,(by first|rfl|exact qai _|exact qaP _|exact qb5 _ _)⟩)
 obtain⟨a,p,h⟩:=y
 cases a<;>cases p<;>cases h<;>rfl
theorem qvP (y:Nm):PC CP 153 [y.v] (bl (qrQ y)):=by
 refine PC.of2 (cf:=cf153) (np:=1) (args':=[y.v]) (by kernel_rfl) (by kernel_rfl) rfl (by first|rfl|(simp only[zap,qak,qb9];rfl)) (by first|rfl|(simp only[zam,qai,qca];rfl)) (fun lo=>by first|rfl|exact qaM lo _|exact qaW lo _|exact qcf lo _ _) (Ev.mono (ev0) fun N _ E s=>⟨bl (qrQ y),s,(s153_eq _ _ _ _).trans ?_,(by first|rfl|exact qai _|exact qaP _|exact qb5 _ _)⟩)
 obtain⟨a,p,h⟩:=y
 cases a<;>cases p<;>cases h<;>rfl
theorem of_u:UC 136 (fun p:Int×Int×Int×List Tm=>[u8 p.1,i64 p.2.1,i64 p.2.2.1,kv p.2.2.2]) (fun _ _ _=>True) (fun p=>(Tm.mk p.1 p.2.1 p.2.2.1 0 p.2.2.2).v):=by
 refine UC.of (cf:=cf136) (np:=4) (by kernel_rfl) (by kernel_rfl) (fun _=>rfl) (fun _=>rfl) (fun _=>rfl) (fun _=>Stab.pure _) (fun p lo=>qaM lo _) (Ev.of fun n p E s _=>⟨(Tm.mk p.1 p.2.1 p.2.2.1 0 p.2.2.2).v,s,(s136_eq _ _ _ _ _ _ _).trans ?_,qai _⟩)
 obtain⟨k,n,m,l⟩:=p
 unfold s136
 have h:bd [u8 0,i64 0,i64 0,i64 0,.sl 0 [] .full] [(0,none,.c (u8 k)),(1,none,.c (i64 n)),(2,none,.c (i64 m)),(4,none,.c (kv l))]=some (Tm.mk k n m 0 l).v:=by rw[Tm.v_eq];rfl
 simp only[h,qah,qaU,qav,zaa]
theorem one_u:UC 142 (fun u:Tm=>[u.v]) (fun _ _ _=>True) (fun u=>(Tm.az 1 u).v):=by
 refine UC.of (cf:=cf142) (np:=1) (by kernel_rfl) (by kernel_rfl) (fun _=>rfl) (fun u=>by simp only[zap,qak];rfl) (fun u=>by simp only[zam,qai];rfl) (fun _=>Stab.pure _) (fun p lo=>qaM lo _) (of_u.mono fun n h u E s _=>⟨(Tm.az 1 u).v,s,(s142_eq _ _ _ _).trans ?_,qai _⟩)
 have h':=qn9 (E:=E) 6 1 0 [u] .full (fun E s=>h (6,1,0,[u]) E s trivial) s
 simp only[zar,zaB,zaK] at h'
 unfold s142
 simp only[qpN,h',qah,qaU,qav,zaa,qab]
theorem qxG (y:Vw):UC 151 (fun p:Tm×Nat=>[p.1.v,.ptr p.2 0]) (fun p E s=>qar E s p.2=some y.c) (fun _=>(Tm.num y.t.m y.t.n).v):=by
 refine UC.of (cf:=cf151) (np:=2) (by kernel_rfl) (by kernel_rfl) (fun _=>rfl) (fun _=>by simp only[zap,qak];rfl) (fun _=>by simp only[zam,qai];rfl) (fun p=>Stab.at p.2 _) (fun p lo=>qaM lo _) ((qpO y.t.m y.t.n).mono fun n h p E s hc=>⟨(Tm.num y.t.m y.t.n).v,s,(s151_eq _ _ _ _ _).trans ?_,qai _⟩)
 have hc':qar (qag CP n E).E s p.2=some y.c:=by rw[qa9];exact hc
 unfold s151
 simp only[ldP hc',zaK,h,qah,qaU,qav,qkV,qqS,zaa,qab,qbD]
theorem wr1_u:UC 152 (fun t:Tm=>[t.v]) (fun t _ _=>(t.k=4\/t.k=18)/\∃u,t.ks=[u]) (fun t=>(b1F .z t).v):=by
 refine UC.of (cf:=cf152) (np:=1) (by kernel_rfl) (by kernel_rfl) (fun _=>rfl) (fun u=>by simp only[zap,qak];rfl) (fun u=>by simp only[zam,qai];rfl) (fun _=>Stab.pure _) (fun p lo=>qaM lo _) (one_u.mono fun n h t E s ⟨hk,u,hu⟩=>⟨(b1F .z t).v,s,(s152_eq _ _ _ _).trans ?_,qai _⟩)
 obtain⟨i0,l0⟩:=qb8 (n:=n) (E:=E) (l:=[u]) (u:=u) rfl
 unfold s152 b1F
 rcases hk with hk|hk
 ·simp only[hk,hu,i0,l0,h u E s trivial,zbh,if_true,if_false,qah,qaU,qbc,qbj,qav,qad,qaf,zaj,decide_false,qaa,cond_false,zab,zaa,qab]
 ·simp only[hk,hu,i0,l0,zbh,if_false,qah,qaU,qbc,qbj,qav,qad,qaf,zaj,decide_true,qaa,cond_true,zab,zaa,qab]
abbrev ini (t:Tm):Tm:=.num t.m t.n
abbrev cid (x:Sc):Int:=Int.ofNat x.ids.length+1
theorem qjB (x:Sc):1<=cid x:=by
 have:(0:Int)<=Int.ofNat x.ids.length:=Int.natCast_nonneg _
 show(1:Int)<=Int.ofNat x.ids.length+1
 omega
theorem qhy {x:Sc}{t u:Tm}(g:Gd x t)(hk:t.k=10)(hu:t.ks=[u]):AllN (qoc (cid x)) u/\u.size<=t.size/\u.Ok:=by
 have hsz:=g.sz (by omega) (by omega)
 have hm:u∈t.ks:=by rw[hu];exact zau ..
 have hlt:=qa5 hm
 refine⟨?_,by omega,g.ok.kids u hm⟩
 have gsh:=g.sh
 cases gsh with
 |new n m v=>
  simp only[Tm.ks_mk,zbo,and_true] at hu
  subst hu
  rw[qeX,zag] at hsz
  exact qnb (qjB x) v.size v _ (zan _) (g.ok.kids v hm) ⟨_,Sc.get_last,rfl,rfl⟩ (.inl hsz.1)
 |_=>simp only[Tm.k_mk] at hk;omega
theorem qvQ (id:Int)(t:Tm)(l l':Int):isA id t l=isA id t l':=rfl
theorem qvR (id:Int)(t:Tm)(l l':Int):isP id t l=isP id t l':=rfl
theorem qtV (id:Int)(t:Tm)(l l':Int):isH id t l=isH id t l':=rfl
def PbU (id:Int)(t:Tm):Prop:=t.i≠id/\Big t
def PbR (id:Int)(t:Tm):Prop:=(t.i=id->t.k=3/\t.ks=[])/\Big t
def PbW (id:Int)(t:Tm):Prop:=(t.i=id->(t.k=4/\t.n=0/\t.m=0/\∃u,t.ks=[u])\/(t.k=18/\∃u,t.ks=[u]))/\Big t
theorem qvS {t:Tm}(h:Sh t)(hk:t.k=3):t.ks=[]:=by
 cases h with
 |get i=>rfl
 |_=>simp only[Tm.k_mk] at hk;omega
theorem qvT {t:Tm}(h:Sh t)(hk:t.k=4):t.n=0/\t.m=0/\∃u,t.ks=[u]:=by
 cases h with
 |put i u=>exact⟨rfl,rfl,u,rfl⟩
 |_=>simp only[Tm.k_mk] at hk;omega
theorem qvU {t:Tm}(h:Sh t)(hk:t.k=18):∃u,t.ks=[u]:=by
 cases h with
 |ntc n i u=>exact⟨u,rfl⟩
 |_=>simp only[Tm.k_mk] at hk;omega
theorem allU {id:Int}{u:Tm}(h:AllN (qoc id) u)(hok:okU (qfl id u)=true):AllN (PbU id) u:=by
 simp only[okU,qfl,zag,za0] at hok
 obtain⟨h1,h2,h3⟩:=hok
 refine(((qd9 (qvQ id) h1).and (qd9 (qvR id) h2)).and ((qd9 (qtV id) h3).and h)).imp fun t ⟨⟨a,p⟩,q,hc,hsh,hb⟩=>⟨fun hi=>?_,hb⟩
 simp only[isA,isP,isH,hi,decide_true,zay,zaU,decide_eq_false_iff_not] at a p q
 rcases hc hi with k|k|k|k
 ·exact a k
 ·exact p.1 k
 ·exact p.2 k
 ·exact q k
theorem allR {id:Int}{u:Tm}(h:AllN (qoc id) u)(hok:qrP (qfl id u)=true):AllN (PbR id) u:=by
 simp only[qrP,qfl,zag,za0] at hok
 obtain⟨_,h2,h3⟩:=hok
 refine(((qd9 (qvR id) h2)).and ((qd9 (qtV id) h3).and h)).imp fun t ⟨p,q,hc,hsh,hb⟩=>⟨fun hi=>?_,hb⟩
 simp only[isP,isH,hi,decide_true,zay,zaU,decide_eq_false_iff_not] at p q
 rcases hc hi with k|k|k|k
 ·exact⟨k,qvS hsh k⟩
 ·exact absurd k p.1
 ·exact absurd k p.2
 ·exact absurd k q
theorem allW {id:Int}{u:Tm}(h:AllN (qoc id) u)(hok:qrQ (qfl id u)=true):AllN (PbW id) u:=by
 simp only[qrQ,qfl,zag,za0] at hok
 obtain⟨h1,_,h3⟩:=hok
 refine(((qd9 (qvQ id) h1)).and ((qd9 (qtV id) h3).and h)).imp fun t ⟨a,q,hc,hsh,hb⟩=>⟨fun hi=>?_,hb⟩
 simp only[isA,isH,hi,decide_true,zay,decide_eq_false_iff_not] at a q
 rcases hc hi with k|k|k|k
 ·exact absurd k a
 ·exact .inl ⟨k,qvT hsh k⟩
 ·exact .inr ⟨k,qvU hsh k⟩
 ·exact absurd k q
def qf4 (x:Sc)(t:Tm):Option Tm:=clR x okU (ini t) t
def qod (x:Sc)(t:Tm):Option Tm:=clR x qrP (ini t) t
def qiD (x:Sc)(t:Tm):Option Tm:=clR x qrQ (ini t) t
theorem qrR (x:Sc)(t:Tm)(g:Gd x t)(hs:t.size<=900000):RuC 85 x t (qf4 x t):=by
 have hcl:=qf2 (ι:=Unit) (bv:=fun _=> .p .nilFunc) (Cb:=fun _ _ _=>True) (val:=ini t) x t g hs 149 okU qxF (fun _=>rfl) (fun _=>rfl) (fun _=>Stab.pure _) (fun u hk hu hok=>by
  obtain⟨h1,h2,h3⟩:=qhy g hk hu
  exact qhx (ι:=Unit) (bv:=fun _=> .p .nilFunc) (Cb:=fun _ _ _=>True) (Pb:=PbU (cid x)) (id:=cid x) (val:=ini t) ⟨rfl,rfl,rfl⟩ (qjB x) (fun t h=>⟨fun hi=>absurd hi h.1,h.2⟩) (fun _=>Stab.pure _) (fun _ _ _ _ _=>trivial) (fun _ _ _ _ _ _ _=>trivial) (fun _=>rfl) (fun _=>rfl) (fun _=>rfl) (fun _=>rfl) u (by omega) (allU h1 hok)
   (Ev.of fun n p E s t _ h hi=>absurd hi h.1))
 refine RuC.of (cf:=cf85) (by kernel_rfl) (by kernel_rfl) (hcl.mono fun N h E s=>⟨s,(s85_eq _ _ _ _).trans ?_⟩)
 have h':cl (qag CP N E) 148 [(vw x t).v,.p (.func 149 [] []),.p .nilFunc] s=some (qc8 (qf4 x t),s):=h () E s trivial
 unfold s85
 simp only[h',qah,qaU,qav,qaH,qch,zaa,qab,qan,qax,qay,qaC]
theorem qvV (x:Sc)(t:Tm)(g:Gd x t)(hs:t.size<=900000):RuC 86 x t (qod x t):=by
 have hcl:=qf2 (ι:=Nat) (bv:=fun l=> .func 151 [] [.ptr l 0]) (Cb:=fun l E s=>qar E s l=some (vw x t).c/\l<s.next) (val:=ini t) x t g hs 150 qrP qvO (fun _=>rfl) (fun _=>rfl) (fun l=>(Stab.at l _).and (fun E s h=>h)) (fun u hk hu hok=>by
  obtain⟨h1,h2,h3⟩:=qhy g hk hu
  exact qhx (ι:=Nat) (bv:=fun l=> .func 151 [] [.ptr l 0]) (Cb:=fun l E s=>qar E s l=some (vw x t).c/\l<s.next) (Pb:=PbR (cid x)) (id:=cid x) (val:=ini t) ⟨rfl,rfl,rfl⟩ (qjB x) (fun t h=>⟨fun hi=> .inl (h.1 hi),h.2⟩) (fun l=>(Stab.at l _).and (fun E s h=>h))
   (fun l E s o h=>⟨by
    have:=qbx (E:=E) (s:=qal s o) (l:=l) (m:=s.next) (o:=o) (H:=s.heap) rfl (by omega)
    rw[this]
    exact h.1,Nat.lt_succ_of_lt h.2⟩) (fun l E s s' h e1 e2=>⟨by rw[qeA e1];exact h.1,by rw[e2];exact h.2⟩) (fun _=>rfl) (fun _=>rfl) (fun _=>rfl) (fun _=>rfl) u (by omega) (allR h1 hok)
   (((qxG (vw x t)).and (Ev.ge 1)).mono fun n ⟨h,hn⟩ l E s t' hc hp hi=>by
    rw[qh0 CP hn]
    have e:b1F (ini t) t'=ini t:=by unfold b1F;rw[if_pos (hp.1 hi).1]
    rw[e]
    exact h (t',l) E s hc.1))
 refine RuC.of (cf:=cf86) (by kernel_rfl) (by kernel_rfl) (hcl.mono fun N h E s=>⟨qal s (.cells (vw x t).c),(s86_eq _ _ _ _).trans ?_⟩)
 have h':cl (qag CP N E) 148 [(vw x t).v,.p (.func 150 [] []),.func 151 [] [.ptr s.next 0]] (qal s (.cells (vw x t).c))=some (qc8 (qod x t),qal s (.cells (vw x t).c)):=h s.next E _ ⟨qaO _ _ _,zbe _⟩
 unfold s86
 simp only[h',qah,qaU,qav,qaH,qch,qds,zaa,qab,qan,qax,qay,qa3,qbw,cnd,qcW,qaC]
theorem qtW (x:Sc)(t:Tm)(g:Gd x t)(hs:t.size<=900000):RuC 87 x t (qiD x t):=by
 have hcl:=qf2 (ι:=Unit) (bv:=fun _=> .p (.func 152 [] [])) (Cb:=fun _ _ _=>True) (val:=ini t) x t g hs 153 qrQ qvP (fun _=>rfl) (fun _=>rfl) (fun _=>Stab.pure _) (fun u hk hu hok=>by
  obtain⟨h1,h2,h3⟩:=qhy g hk hu
  exact qhx (ι:=Unit) (bv:=fun _=> .p (.func 152 [] [])) (Cb:=fun _ _ _=>True) (Pb:=PbW (cid x)) (id:=cid x) (val:=ini t) ⟨rfl,rfl,rfl⟩ (qjB x) (fun t h=>⟨fun hi=> .inr (h.1 hi),h.2⟩) (fun _=>Stab.pure _) (fun _ _ _ _ _=>trivial) (fun _ _ _ _ _ _ _=>trivial) (fun _=>rfl) (fun _=>rfl) (fun _=>rfl) (fun _=>rfl) u (by omega) (allW h1 hok)
   ((wr1_u.and (Ev.ge 1)).mono fun n ⟨h,hn⟩ p E s t' _ hp hi=>by
    rw[qgk CP hn]
    have hq:=hp.1 hi
    have e:b1F (ini t) t'=b1F .z t':=by
     unfold b1F
     have:¬t'.k=3:=by rcases hq with h|h<;>omega
     rw[if_neg this,if_neg this]
    rw[e]
    refine h t' E s ?_
    rcases hq with⟨k,_,_,u⟩|⟨k,u⟩
    ·exact⟨.inl k,u⟩
    ·exact⟨.inr k,u⟩))
 refine RuC.of (cf:=cf87) (by kernel_rfl) (by kernel_rfl) (hcl.mono fun N h E s=>⟨s,(s87_eq _ _ _ _).trans ?_⟩)
 have h':cl (qag CP N E) 148 [(vw x t).v,.p (.func 153 [] []),.p (.func 152 [] [])] s=some (qc8 (qiD x t),s):=h () E s trivial
 unfold s87
 simp only[h',qah,qaU,qav,qaH,qch,zaa,qab,qan,qax,qay,qaC]
end Go.AI.Tryz
namespace Go.AI
def qbz {σ α:Type}(f:σ->α->σ×Bool):σ->List α->σ×Bool
 |x,[]=>(x,true)
 |x,a::r=>if(f x a).2 then qbz f (f x a).1 r else((f x a).1,false)
theorem qeB {σ α:Type}(f:σ->α->σ×Bool):∀(l m:List α) (x:σ),qbz f x (l++m)=if(qbz f x l).2 then qbz f (qbz f x l).1 m else((qbz f x l).1,false)
 |[],m,x=>by simp only[zaJ,qbz,if_true]
 |a::l,m,x=>by
  simp only[zaF,qbz]
  split
  ·exact qeB f l m _
  ·simp only[zai,if_false]
end Go.AI
namespace Go.AI.Tryz
def ScOk (x:Sc):Prop:=∀e∈x.ids,1<=e.ty.res.n/\e.ty.res.n<=64
theorem ScOk.get {x:Sc}(h:ScOk x){i:Int}{e:Se}(he:x.get i=some e):1<=e.ty.res.n/\e.ty.res.n<=64:=by
 obtain⟨j,_,hj⟩:=Sc.get_inv he
 exact h e (zaM hj)
theorem ScOk.with {x:Sc}(h:ScOk x){y:Se}(hy:1<=y.ty.res.n/\y.ty.res.n<=64):ScOk (x.with y):=by
 intro e he
 simp only[Sc.with,zaI,zaV] at he
 rcases he with he|rfl
 ·exact h e he
 ·exact hy
theorem qfF:∀(d:Nat) (t:Tm) (x:Sc),t.size<=d->ScOk x->(szF x t).2=true->1<=(szF x t).1/\(szF x t).1<=64
 |0,t,_,h,_,_=>by have:=Tm.size_pos t;omega
 |d+1,t,x,hd,hx,h=>by
  have IH:∀u∈t.ks,∀y,ScOk y->(szF y u).2=true->1<=(szF y u).1/\(szF y u).1<=64:=fun u hu y hy hs=>qfF d u y (by have:=qa5 hu;omega) hy hs
  cases qdj h with
  |num n m=>rw[qdB] at h⊢;simp only[zag,isSize_iff] at h;exact h.1
  |use i ks=>
   rw[qgl] at h⊢
   cases he:x.get i with
   |none=>rw[he] at h;cases h
   |some e=>exact hx.get he
  |get i=>
   rw[qhr] at h⊢
   cases he:x.get i with
   |none=>rw[he] at h;cases h
   |some e=>exact hx.get he
  |val i=>
   rw[qhs] at h⊢
   cases he:x.get i with
   |none=>rw[he] at h;cases h
   |some e=>exact hx.get he
  |put i u=>rw[qeW];exact⟨Int.le_refl _,by show(1:Int)<=64;omega⟩
  |whl u w=>rw[qfD];exact⟨Int.le_refl _,by show(1:Int)<=64;omega⟩
  |jmp n=>rw[qiA];exact⟨Int.le_refl _,by show(1:Int)<=64;omega⟩
  |hang=>rw[qht];exact⟨Int.le_refl _,by show(1:Int)<=64;omega⟩
  |op n m u w=>
   rw[qeQ] at h⊢
   split at h
   ·simp only[zag,isSize_iff] at h;rename_i h1;simp only[h1,if_true];exact h.1
   ·split at h
    ·rename_i h1 h2;simp only[h1,h2,if_false,if_true];exact⟨by omega,by omega⟩
    ·cases h
  |az n u=>rw[qeR] at h⊢;simp only[zag,isSize_iff] at h;exact h.2
  |seq u w=>rw[qb2] at h⊢;simp only[zag] at h;exact IH w (by simp[Tm.ks]) x hx h.1
  |ite c u w=>rw[qcA] at h⊢;simp only[zag] at h;exact IH u (by simp[Tm.ks]) x hx h.1.1
  |new n m u=>
   rw[qeX] at h⊢
   simp only[zag,isSize_iff] at h
   exact IH u (by simp[Tm.ks]) _ (hx.with h.2.1) h.1
  |lbl u w=>rw[qew] at h⊢;simp only[zag] at h;exact IH u (by simp[Tm.ks]) {x with size:=x.size+1} hx h.1
  |cho u w=>rw[qex] at h⊢;simp only[zag] at h;exact IH u (by simp[Tm.ks]) x hx h.1
  |ntc n i u=>rw[qey] at h⊢;simp only[zag] at h;exact IH u (by simp[Tm.ks]) x hx h.1
  |cel i=>rw[qeY] at h;cases h
  |obj u w=>rw[qdQ] at h;cases h
structure Nd (x:Sc)(t:Tm):Prop where
 w:(szF x t).2=true\/∃b,qdy szF x t b=true
 b:x.B t.size
 ok:t.Ok
 sc:ScOk x
theorem Nd.sh {x:Sc}{t:Tm}(h:Nd x t):Sh t:=by
 rcases h.w with h|⟨b,h⟩
 ·exact qdj h
 ·rcases qfE h with h|⟨i,e,rfl,_⟩|⟨u,w,rfl,_⟩
  ·exact qdj (by rw[h])
  ·exact .cel i
  ·exact .obj u w
theorem Nd.gd {x:Sc}{t:Tm}(h:Nd x t):Gd x t:=by
 refine⟨h.sh,h.b,fun h1 h2=>?_,h.ok⟩
 rcases h.w with h|⟨b,h⟩
 ·exact h
 ·rcases qfE h with h|⟨i,e,rfl,_⟩|⟨u,w,rfl,_⟩
  ·rw[h]
  ·exact absurd rfl h1
  ·exact absurd rfl h2
theorem Nd.size {x:Sc}{t:Tm}(h:Nd x t):t.size<=1000000:=by have:=h.b.1;omega
theorem qvW {x:Sc}{t u:Tm}{j:Nat}(h:x.B t.size)(hu:t.ks[j]? =some u):(x.kid t j).B u.size:=by
 have hlt:=qa5 (zaM hu)
 unfold Sc.kid
 split
 ·exact qhn h hlt
 ·split
  ·exact qhn h hlt
  ·split
   ·obtain⟨h1,h2,h3⟩:=h
    exact⟨by show x.ids.length+_<=_;omega,by show 0<=x.size+1;omega,by show x.size+1+_<=_;omega⟩
   ·exact qm4 h hlt
theorem Nd.kid {x:Sc}{t u:Tm}{j:Nat}(h:Nd x t)(hu:t.ks[j]? =some u):Nd (x.kid t j) u:=by
 have hm:=zaM hu
 have hb:=qvW h.b hu
 have hok:=h.ok.kids u hm
 have hB:=h.b
 have hOk:=h.ok
 have fin:∀y,y=x.kid t j->((szF y u).2=true\/∃b,qdy szF y u b=true)->ScOk y->Nd (x.kid t j) u:=by
  rintro y rfl h1 h2
  exact⟨h1,hb,hok,h2⟩
 have sc:=h.sc
 have hw:(szF x t).2=true\/(∃i,t=.cel i)\/(∃v w,∃b:Bs,t=.obj v w/\szF x v=(b.n,true)/\szF (x.with ⟨⟨[],⟨false,b.n⟩⟩,true⟩) w=(1,true)):=by
  rcases h.w with h|⟨b,h⟩
  ·exact .inl h
  ·rcases qfE h with h1|⟨i,e,h1,_⟩|⟨v,w,h1,h2,h3,_⟩
   ·exact .inl (by rw[h1])
   ·exact .inr (.inl ⟨i,h1⟩)
   ·exact .inr (.inr ⟨v,w,b,h1,h2,h3⟩)
 clear h
 rcases hw with h|⟨i,rfl⟩|⟨v,w,b,rfl,h1,h2⟩
 ·cases qdj h with
  |num n m=>simp[Tm.ks] at hu
  |use i ks=>
   rw[qgl] at h
   simp only[zag] at h
   obtain⟨b,_,hf⟩:=qf3 h.2.2.2 u hm
   exact fin x (by simp[Sc.kid,Tm.k]) (.inr ⟨b,hf⟩) sc
  |get i=>simp[Tm.ks] at hu
  |put i v=>
   rw[qeW,zag,is2_iff] at h
   have:u=v:=by simpa[Tm.ks] using hm
   subst this
   exact fin x (by simp[Sc.kid,Tm.k]) (.inl (by rw[h.2])) sc
  |op n m v w=>
   rw[qeQ] at h
   have hin:is2 (szF x v) m=true/\is2 (szF x w) m=true:=by
    split at h
    ·simp only[zag] at h⊢;exact h.2
    ·split at h
     ·simp only[zag] at h⊢;exact h.2
     ·cases h
   rw[is2_iff,is2_iff] at hin
   have hc:u=v\/u=w:=by simpa[Tm.ks] using hm
   rcases hc with rfl|rfl
   ·exact fin x (by simp[Sc.kid,Tm.k]) (.inl (by rw[hin.1])) sc
   ·exact fin x (by simp[Sc.kid,Tm.k]) (.inl (by rw[hin.2])) sc
  |az n v=>
   rw[qeR,zag] at h
   have:u=v:=by simpa[Tm.ks] using hm
   subst this
   exact fin x (by simp[Sc.kid,Tm.k]) (.inl h.1) sc
  |seq v w=>
   rw[qb2,zag,is2_iff] at h
   have hc:u=v\/u=w:=by simpa[Tm.ks] using hm
   rcases hc with rfl|rfl
   ·exact fin x (by simp[Sc.kid,Tm.k]) (.inl (by rw[h.2])) sc
   ·exact fin x (by simp[Sc.kid,Tm.k]) (.inl h.1) sc
  |ite c v w=>
   rw[qcA,zag,zag,is2_iff] at h
   have hc:u=c\/u=v\/u=w:=by simpa[Tm.ks] using hm
   rcases hc with rfl|rfl|rfl
   ·exact fin x (by simp[Sc.kid,Tm.k]) (.inl h.2) sc
   ·exact fin x (by simp[Sc.kid,Tm.k]) (.inl h.1.1) sc
   ·exact fin x (by simp[Sc.kid,Tm.k]) (.inl (by rw[h.1.2])) sc
  |whl v w=>
   rw[qfD,zag,is2_iff] at h
   have hc:u=v\/u=w:=by simpa[Tm.ks] using hm
   rcases hc with rfl|rfl
   ·exact fin x (by simp[Sc.kid,Tm.k]) (.inl h.1) sc
   ·exact fin x (by simp[Sc.kid,Tm.k]) (.inl (by rw[h.2])) sc
  |new n m v=>
   rw[qeX,zag,zag,isSize_iff] at h
   have:u=v:=by simpa[Tm.ks] using hm
   subst this
   exact fin _ (by simp[Sc.kid,Tm.k,Tm.n]) (.inl h.1) (sc.with h.2.1)
  |lbl v w=>
   rw[qew,zag,is2_iff] at h
   match j,hu with
   |0,hu=>
    have:u=v:=by simpa[Tm.ks] using hu.symm
    subst this
    exact fin {x with size:=x.size+1} (by simp[Sc.kid,Tm.k]) (.inl h.1) sc
   |1,hu=>
    have:u=w:=by simpa[Tm.ks] using hu.symm
    subst this
    exact fin x (by simp[Sc.kid,Tm.k]) (.inl (by rw[h.2])) sc
   |j+2,hu=>simp[Tm.ks] at hu
  |jmp n=>simp[Tm.ks] at hu
  |cho v w=>
   rw[qex,zag,is2_iff] at h
   have hc:u=v\/u=w:=by simpa[Tm.ks] using hm
   rcases hc with rfl|rfl
   ·exact fin x (by simp[Sc.kid,Tm.k]) (.inl h.1) sc
   ·exact fin x (by simp[Sc.kid,Tm.k]) (.inl (by rw[h.2])) sc
  |hang=>simp[Tm.ks] at hu
  |val i=>simp[Tm.ks] at hu
  |cel i=>simp[Tm.ks] at hu
  |obj v w=>rw[qdQ] at h;cases h
  |ntc n i v=>
   rw[qey,zag] at h
   have:u=v:=by simpa[Tm.ks] using hm
   subst this
   exact fin x (by simp[Sc.kid,Tm.k]) (.inl h.1) sc
 ·simp[Tm.ks] at hu
 ·match j,hu with
  |0,hu=>
   have:u=v:=by simpa[Tm.ks] using hu.symm
   subst this
   exact fin x (by simp[Sc.kid,Tm.k]) (.inl (by rw[h1])) sc
  |1,hu=>
   have:u=w:=by simpa[Tm.ks] using hu.symm
   subst this
   have hr:=qfF _ v x (zan _) sc (by rw[h1])
   rw[h1] at hr
   exact fin (x.with ⟨⟨[],⟨false,b.n⟩⟩,true⟩) (by simp[Sc.kid,Tm.k,Tm.ks,h1]) (.inl (by rw[h2])) (sc.with hr)
  |j+2,hu=>simp[Tm.ks] at hu
def qbn (i:Nat)(x:Sc)(t:Tm):Option Tm:=
 match i with
 |0=>opR x t|1=>asR t|2=>qh1 x t|3=>qc0 t|4=>qh2 t|5=>ifR t|6=>qh3 t|7=>qob t|8=>qh4 x t|9=>qh5 t|10=>qf0 t|11=>qf1 x t
 |12=>qe0 t|13=>qf4 x t|14=>qod x t|15=>qiD x t|16=>qdS x t|17=>qe1 t|18=>qh6 t|19=>qdJ x t|20=>qdI t|21=>qez t
 |_=>none
theorem qvX {x:Sc}{t:Tm}(h:Nd x t)(hs:t.size<=900000):∀i,i<22->RuC (72+i) x t (qbn i x t)
 |0,_=>op_c x t h.gd
 |1,_=>as_c x t h.sh fun hk=>by
  have:=h.gd.sz (by omega) (by omega)
  cases h.sh with
  |az n u=>rw[qeR,zag,isSize_iff] at this;show n≠0;omega
  |_=>simp only[Tm.k_mk] at hk;omega
 |2,_=>qtG x t h.gd
 |3,_=>qpQ x t h.gd
 |4,_=>qvG x t h.gd
 |5,_=>if_c x t h.gd
 |6,_=>qtK x t h.gd
 |7,_=>qxB x t h.gd
 |8,_=>qvI x t h.gd
 |9,_=>qvJ x t h.gd
 |10,_=>qvK x t h.gd
 |11,_=>by
  by_cases hk:t.k=16\/t.k=17
  ·have hsh:=h.sh
   refine qsF x t h.gd ?_
   rcases hk with hk|hk
   ·cases hsh with
    |cel i=>rw[qeY];exact .mk (by omega) (by omega) (by show _/\(0:Int)<=_;omega) (by omega) (by simp) (fun _ h=>by cases h)
    |_=>simp only[Tm.k_mk] at hk;omega
   ·cases hsh with
    |obj u w=>rw[qdQ];exact .mk (by omega) (by omega) (by show _/\(0:Int)<=_;omega) (by omega) (by simp) (fun _ h=>by cases h)
    |_=>simp only[Tm.k_mk] at hk;omega
  ·have hsz:=h.gd.sz (by omega) (by omega)
   have:=qfF _ t x (zan _) h.sc hsz
   exact qsF x t h.gd (.mk (by omega) (by omega) (by omega) (by omega) (by simp) (fun _ h=>by cases h))
 |12,_=>qtM x t h.gd
 |13,_=>qrR x t h.gd hs
 |14,_=>qvV x t h.gd hs
 |15,_=>qtW x t h.gd hs
 |16,_=>qtO x t h.gd
 |17,_=>qtR x t h.gd hs
 |18,_=>qvL x t h.gd
 |19,_=>qrN x t h.gd hs
 |20,_=>qrJ x t h.gd
 |21,_=>qtN x t h.gd
 |_+22,h=>absurd h (by omega)
mutual
def qbi:Tm->Sc->List (Sc×Tm)
 |.mk k n m i ks,x=>(x,.mk k n m i ks)::qbe (fun j=>x.kid (.mk k n m i ks) j) 0 ks
def qbe (sc:Nat->Sc):Nat->List Tm->List (Sc×Tm)
 |_,[]=>[]
 |j,u::r=>qbi u (sc j)++qbe sc (j+1) r
end
theorem qc1 (t:Tm)(x:Sc):qbi t x=(x,t)::qbe (fun j=>x.kid t j) 0 t.ks:=by cases t;rw[qbi];rfl
theorem qfG:∀(d:Nat) (t:Tm) (x:Sc),t.size<=d->Nd x t->∀p∈qbi t x,Nd p.1 p.2/\p.2.size<=t.size
 |0,t,_,h,_=>by have:=Tm.size_pos t;omega
 |d+1,t,x,hd,h=>by
  have hk:∀(r done:List Tm) (j:Nat),t.ks=done++r->done.length=j->∀p∈qbe (fun j=>x.kid t j) j r,Nd p.1 p.2/\p.2.size<=t.size:=by
   intro r
   induction r with
   |nil=>intro done j _ _ p hp;simp only[qbe] at hp;cases hp
   |cons u r ih=>
    intro done j he hl p hp
    simp only[qbe,zaI] at hp
    have hu:t.ks[j]? =some u:=by rw[he,zaC (by omega),hl];simp
    have hlt:=qa5 (zaM hu)
    rcases hp with hp|hp
    ·obtain⟨h1,h2⟩:=qfG d u _ (by omega) (h.kid hu) p hp
     exact⟨h1,by omega⟩
    ·exact ih (done++[u]) (j+1) (by rw[he];simp) (by simp[hl]) p hp
  intro p hp
  rw[qc1,zaA] at hp
  rcases hp with rfl|hp
  ·exact⟨h,zan _⟩
  ·exact hk t.ks [] 0 rfl rfl p hp
end Go.AI.Tryz
namespace Go.AI
theorem qdT {α:Type}{l:Nat}:∀{pre H:List (Nat×α)},(∀x∈pre,x.1≠l)->qas (pre++H) l=qas H l
 |[],_,_=>rfl
 |(k,v)::pre,H,h=>by
  simp only[zaF,qas]
  rw[show Nat.beq k l=false from Tryz.beq_false (h _ (zau ..)),cond_false]
  exact qdT fun x hx=>h x (zax _ hx)
theorem qdD {α:Type}{l:Nat}{v:α}:∀{pre H:List (Nat×α)},(∀x∈pre,x.1≠l)->qaK (pre++H) l v=(qaK H l v).map (pre++·)
 |[],H,_=>by cases h:qaK H l v<;>simp[h]
 |(k,w)::pre,H,h=>by
  simp only[zaF,qaK]
  rw[show Nat.beq k l=false from Tryz.beq_false (h _ (zau ..)),cond_false,qdD fun x hx=>h x (zax _ hx)]
  cases qaK H l v<;>rfl
theorem qfg {E:qaR}{s:ASt}{l:Nat}{pre H:qaR}(h:s.heap=pre++H)(hp:∀x∈pre,x.1≠l):qar E s l=qdC E H l:=by
 unfold qdC qar
 rw[h,qdT hp]
end Go.AI
namespace Go.AI.Tryz
section
variable {κ σ:Type} {R:κ->σ->qaR->ASt->Prop} {fv:κ->zA} {f:σ->Sc×Tm->σ×Bool} {NS:List (Sc×Tm)} {live:Nat->σ->Prop}
def qvY (live:Nat->σ->Prop)(R:κ->σ->qaR->ASt->Prop)(fv:κ->zA)(f:σ->Sc×Tm->σ×Bool)(NS:List (Sc×Tm))(n:Nat):Prop:=∀q y E s m,∀p∈NS,R q y E s->live (m+22) y->∃s',clv (qag CP n E) (fv q) [(vw p.1 p.2).v] s=some (bl (f y p).2,s')/\R q (f y p).1 E s'/\((f y p).2=true->live m (f y p).1)
def qx6 (NS:List (Sc×Tm))(n:Nat):Prop:=∀p∈NS,∀(j:Nat) u,p.2.ks[j]? =some u->∀E s,cl (qag CP n E) 132 [(vw p.1 p.2).v,i64 (.ofNat j)] s=some ((vw (p.1.kid p.2 j) u).v,s)
theorem qsI (ha:∀q,qbF (fv q)=true)(he:∀q,qaD (fv q)=fv q)(hf:Ev fun n=>qvY live R fv f NS n)(hk:Ev fun n=>qx6 NS n):
  ∀d,d<=1000000->Ev fun n=>∀q (t:Tm) x,t.size<=d->(∀p∈qbi t x,p∈NS)->∀y E s m,R q y E s->live (m+22*t.size) y->∃s',cl (qag CP n E) 95 [(vw x t).v,fv q] s=some (bl (qbz f y (qbi t x)).2,s')/\R q (qbz f y (qbi t x)).1 E s'/\((qbz f y (qbi t x)).2=true->live m (qbz f y (qbi t x)).1)
 |0,_=>Ev.of fun n q t x h=>by have:=Tm.size_pos t;omega
 |d+1,hd=>by
  refine Ev.succ (((hf.and hk).and ((qsI ha he hf hk d (by omega)).and (Ev.ge (d+3)))).mono fun n ⟨⟨hf,hk⟩,ih,hn⟩ q t x hsz hmem y E s m hr hlv=>?_)
  suffices ∃s',s95 (qag CP n E) n (vw x t).v (fv q) s=some (bl (qbz f y (qbi t x)).2,s')/\R q (qbz f y (qbi t x)).1 E s'/\((qbz f y (qbi t x)).2=true->live m (qbz f y (qbi t x)).1) by
   obtain⟨s',e1,e2,e3⟩:=this
   refine⟨s',?_,e2,e3⟩
   rw[qb4]
   exact qfy (cf:=cf95) (np:=2) (args':=[(vw x t).v,fv q]) (v:=bl (qbz f y (qbi t x)).2) (by kernel_rfl) (by kernel_rfl) rfl (by simp only[zap,qb9,ha];rfl) (by simp only[zam,qca,he];rfl) ((s95_eq _ _ _ _ _).trans e1) rfl rfl
  have hself:(x,t)∈NS:=hmem _ (by rw[qc1];exact zau ..)
  have hts:=Tm.size_ks t
  rw[hts] at hlv
  obtain⟨s1,a1,a2,a3⟩:=hf q y E s (m+22*Tm.sizeL t.ks) (x,t) hself hr (by rw[show m+22*Tm.sizeL t.ks+22=m+22*(1+Tm.sizeL t.ks) by omega];exact hlv)
  rw[qc1,qbz]
  rw[qc1] at hmem
  unfold s95
  cases hgo:(f y (x,t)).2 with
  |false=>
   rw[hgo] at a1
   simp only[a1,zai,if_false,qaH,qch,qco,vwt,zal,qaa,cond_true,zaa,qab,qam,qbq]
   exact⟨s1,rfl,a2,fun h=>by cases h⟩
  |true=>
   rw[hgo] at a1
   simp only[a1,if_true,qaH,qch,qco,vwt,zak,qaa,cond_false,zaa,qab,qam,qbq]
   unfold s95_0
   generalize hF:(fun(h12:zA->ASt->Res) (x10:zA) (s11:ASt)=>_)=F
   have hlen:=Tm.len_le_size t.ks
   have key:∀(r done:List Tm) (j k:Nat) (y:σ) (s:ASt),t.ks=done++r->done.length=j->r.length<k->R q y E s->live (m+22*Tm.sizeL r) y->∃s',lp (fun _ _=>none) F k (i64 (.ofNat j)) s=some (bl (qbz f y (qbe (fun j=>x.kid t j) j r)).2,s')/\R q (qbz f y (qbe (fun j=>x.kid t j) j r)).1 E s'/\((qbz f y (qbe (fun j=>x.kid t j) j r)).2=true->live m (qbz f y (qbe (fun j=>x.kid t j) j r)).1):=by
    intro r
    induction r with
    |nil=>
     intro done j k y s h1 h2 hk hr hlv
     obtain⟨k,rfl⟩:∃m,k=m+1:=⟨k-1,by simp only[zaB] at hk;omega⟩
     rw[qa6]
     generalize lp _ F k=L
     subst hF
     have hj:j=t.ks.length:=by rw[h1];simp[h2]
     have hnl:¬(Int.ofNat j<Int.ofNat t.ks.length):=fun h=>by have:=of_lt.1 h;omega
     simp only[hnl,qbe,qbz,qch,qad,qao,qaw,decide_false,qaa,cond_false,zab,zaa]
     exact⟨s,rfl,hr,fun _=>by simpa only[Tm.sizeL,Nat.mul_zero,zbk] using hlv⟩
    |cons u r ih2=>
     intro done j k y s h1 h2 hk2 hr hlv
     obtain⟨k,rfl⟩:∃m,k=m+1:=⟨k-1,by simp only[zar] at hk2;omega⟩
     have hu:t.ks[j]? =some u:=by rw[h1,zaC (by omega),h2];simp
     have hjl:j<t.ks.length:=(zao.1 hu).1
     have hus:u.size<t.size:=qa5 (zaM hu)
     have hkid:=hk (x,t) hself j u hu E
     have hsub:∀p∈qbe (fun j=>x.kid t j) j (u::r),p∈qbe (fun j=>x.kid t j) 0 t.ks:=by
      have:∀(dn:List Tm) (i:Nat) (rest:List Tm) p,p∈qbe (fun j=>x.kid t j) (i+dn.length) rest->p∈qbe (fun j=>x.kid t j) i (dn++rest):=by
       intro dn
       induction dn with
       |nil=>intro i rest p hp;exact hp
       |cons v dn ih3=>
        intro i rest p hp
        simp only[zaF,qbe,zaI]
        right
        refine ih3 (i+1) rest p ?_
        rw[zar] at hp
        rw[show i+1+dn.length=i+(dn.length+1) by omega]
        exact hp
      intro p hp
      rw[h1]
      exact this done 0 _ p (by rw[zaK,h2];exact hp)
     have hmu:∀p∈qbi u (x.kid t j),p∈NS:=fun p hp=>hmem p (zax _ (hsub p (by simp only[qbe,zaI];exact .inl hp)))
     obtain⟨s2,b1,b2,b3⟩:=ih q u (x.kid t j) (by omega) hmu y E s (m+22*Tm.sizeL r) hr (by rw[show m+22*Tm.sizeL r+22*u.size=m+22*(u.size+Tm.sizeL r) by omega];exact hlv)
     simp only[qbe,qeB]
     have hw:=qaN (show j<9223372036854775807 by omega)
     cases hg2:(qbz f y (qbi u (x.kid t j))).2 with
     |false=>
      rw[hg2] at b1
      rw[qa6]
      generalize lp _ F k=L
      subst hF
      simp only[of_lt.2 hjl,hkid,b1,zai,if_false,qch,qad,qao,qaw,decide_true,zal,qaa,cond_true,zab,zaa,qab,qam]
      exact⟨s2,rfl,b2,fun h=>by cases h⟩
     |true=>
      rw[hg2] at b1
      obtain⟨s3,c1,c2,c3⟩:=ih2 (done++[u]) (j+1) k _ s2 (by rw[h1];simp) (by simp[h2]) (by simp only[zar] at hk2;omega) b2 (b3 hg2)
      rw[qa6]
      generalize lp _ F k=L at c1⊢
      subst hF
      simp only[of_lt.2 hjl,hkid,b1,hw,if_true,qch,qad,qao,qaw,decide_true,zak,qaa,cond_true,cond_false,zab,zaa,qab,qam]
      exact⟨s3,c1,c2,c3⟩
   exact key t.ks [] 0 n _ s1 rfl rfl (by omega) a2 (a3 hgo)
end
def nm:Nat->ByteArray
 |0=>⟨#[111,112]⟩|1=>⟨#[97,115]⟩|2=>⟨#[115,105,122,101]⟩|3=>⟨#[110,101,117,116,114,97,108]⟩|4=>⟨#[115,119,97,112]⟩|5=>⟨#[105,102]⟩|6=>⟨#[115,97,109,101]⟩|7=>⟨#[110,111,116]⟩|8=>⟨#[98,111,111,108]⟩|9=>⟨#[115,107,105,112]⟩|10=>⟨#[110,101,115,116]⟩
 |11=>⟨#[100,101,97,100]⟩|12=>⟨#[119,104,105,108,101]⟩|13=>⟨#[117,110,117,115,101,100]⟩|14=>⟨#[114,101,97,100]⟩|15=>⟨#[119,114,105,116,101]⟩|16=>⟨#[107,110,111,119,110]⟩|17=>⟨#[108,97,98,101,108]⟩|18=>⟨#[106,117,109,112]⟩|19=>⟨#[110,111,116,105,99,101]⟩|20=>⟨#[99,104,111,111,115,101]⟩|_=>⟨#[110,101,118,101,114]⟩
def ruC (i:Nat):List zP:=[.str (nm i),.func (72+i) [] []]
def ruL:List Nat:=[0,1,2,3,4,5,6,7,8,9,10,11,12,13,14,15,16,17,18,19,20,21]
abbrev ruV:zA:=.p (.sl 22 (qaQ ruC ruL))
theorem qp2:PC CP 50 [] ruV:=by
 refine PC.of2 (cf:=cf50) (np:=0) (args':=[]) (by kernel_rfl) (by kernel_rfl) rfl rfl rfl (fun _=>rfl) (Ev.of fun n E s=>⟨.sl 22 (qaQ ruC ruL) .full,s,(s50_eq _ _ _).trans ?_,rfl⟩)
 rfl
theorem qf5 {i:Nat}(h:i<22):ruL[i]? =some i:=by
 match i,h with
 |0,_=>rfl|1,_=>rfl|2,_=>rfl|3,_=>rfl|4,_=>rfl|5,_=>rfl|6,_=>rfl|7,_=>rfl|8,_=>rfl|9,_=>rfl|10,_=>rfl
 |11,_=>rfl|12,_=>rfl|13,_=>rfl|14,_=>rfl|15,_=>rfl|16,_=>rfl|17,_=>rfl|18,_=>rfl|19,_=>rfl|20,_=>rfl|21,_=>rfl
 |_+22,h=>exact absurd h (by omega)
end Go.AI.Tryz
namespace Go.AI.Tryz
abbrev Of:=Int×Int×Tm
def rwV (o:Of):zA:=.agg [u8 o.1,i64 o.2.1]
def qdv (sm:Int->Bool)(x:Sc)(t:Tm)(at_:Int):List Of:=ruL.filterMap fun i=>if sm (.ofNat (i+1)) then(qbn i x t).map fun u=>(.ofNat (i+1),at_,u) else none
def qcO (sm:Int->Bool):Int->List (Sc×Tm)->List Of
 |_,[]=>[]
 |at_,p::r=>qdv sm p.1 p.2 at_++qcO sm (at_+1) r
def qoe (sm:Int->Bool):Int->List (Sc×Tm)->List Of
 |_,[]=>[]
 |at_,p::r=>qdv sm p.1 p.2 at_++qoe sm (qbb .i64 (at_+1)) r
theorem qnc (sm:Int->Bool):∀(r:List (Sc×Tm)) (at_:Int),0<=at_->at_+r.length<=1000000000->qoe sm at_ r=qcO sm at_ r
 |[],_,_,_=>rfl
 |p::r,a,h0,h1=>by
  simp only[zar] at h1
  simp only[qoe,qcO]
  rw[qbu (by omega) (by omega),qnc sm r (a+1) (by omega) (by omega)]
def f96 {σ:Type}(st:σ->Of->σ×Bool)(sm:Int->Bool):σ×Int->Sc×Tm->(σ×Int)×Bool:=fun z p=>
 if(qbz st z.1 (qdv sm p.1 p.2 z.2)).2 then(((qbz st z.1 (qdv sm p.1 p.2 z.2)).1,qbb .i64 (z.2+1)),true) else(((qbz st z.1 (qdv sm p.1 p.2 z.2)).1,z.2),false)
theorem qsJ {σ:Type}(st:σ->Of->σ×Bool)(sm:Int->Bool):∀(l:List (Sc×Tm)) (y:σ) (a:Int),(qbz (f96 st sm) (y,a) l).1.1=(qbz st y (qoe sm a l)).1/\(qbz (f96 st sm) (y,a) l).2=(qbz st y (qoe sm a l)).2
 |[],y,a=>⟨rfl,rfl⟩
 |p::l,y,a=>by
  simp only[qbz,qoe,qeB,f96]
  cases h:(qbz st y (qdv sm p.1 p.2 a)).2 with
  |true=>
   simp only[if_true]
   exact qsJ st sm l _ _
  |false=>simp only[zai,if_false,and_self]
theorem qp3 {m:Nat}(h:m<256):qbb .u8 (.ofNat m)=.ofNat m:=by
 show cond (Nat.blt m 256) _ _=_
 rw[blt_iff.2 h,cond_true]
abbrev qnd (s:ASt):Nat×List (Nat×Nat×Nat):=(s.ntok,s.toks)
section
variable {κ σ:Type} (N0 l7:κ->Nat) (yv someV:κ->zA) (U:κ->σ->qaR->qaR->Nat×List (Nat×Nat×Nat)->Prop) (st:σ->Of->σ×Bool) (sm:Int->Bool) (OS:Tm->Prop) (live:Nat->σ->Prop)
def YC (n:Nat):Prop:=∀q y E H pre s (o:Of) (m:Nat),OS o.2.2->s.heap=pre++H->(∀x∈pre,N0 q<=x.1)->N0 q<=s.next->U q y E H (qnd s)->live (m+1) y->
 ∃s' H',clv (qag CP n E) (yv q) [rwV o,o.2.2.v] s=some (bl (st y o).2,s')/\s'.heap=pre++H'/\s'.next=s.next/\U q (st y o).1 E H' (qnd s')/\((st y o).2=true->live m (st y o).1)
def SmC (n:Nat):Prop:=∀q y E H pre s i,i<22->s.heap=pre++H->(∀x∈pre,N0 q<=x.1)->U q y E H (qnd s)->clv (qag CP n E) (someV q) [u8 (.ofNat (i+1))] s=some (bl (sm (.ofNat (i+1))),s)
def RuA (NS:List (Sc×Tm))(n:Nat):Prop:=∀p∈NS,∀i,i<22->∀E s,cl (qag CP n E) (72+i) [(vw p.1 p.2).v] s=some (qc8 (qbn i p.1 p.2),s)
def qk0 (q:κ)(M:Nat)(a:Int):qaR:=[(M+2,.cells [ruV]),(M+1,.cells [i64 a]),(M,.cells [yv q])]
def R96 (q:κ×Nat)(z:σ×Int)(E:qaR)(s:ASt):Prop:=∃H,s.heap=qk0 yv q.1 q.2 z.2++H/\s.next=q.2+3/\N0 q.1<=q.2/\U q.1 z.1 E H (qnd s)
variable {N0 l7 yv someV U st sm OS live}
theorem qxH {NS:List (Sc×Tm)}(hmono:∀m y,live (m+1) y->live m y)(hU:∀q y E H tk,U q y E H tk->qdC E H (l7 q)=some [someV q]/\l7 q<N0 q)(hOS:∀p∈NS,∀i,i<22->∀u,qbn i p.1 p.2=some u->OS u)
  (hy:Ev fun n=>YC N0 yv U st OS live n)(hs:Ev fun n=>SmC N0 someV U sm n)(hr:Ev fun n=>RuA NS n):
  Ev fun n=>qvY (fun m z=>live m z.1) (R96 N0 yv U) (fun q=> .func 96 [] [.ptr (q.2+2) 0,.ptr (l7 q.1) 0,.ptr q.2 0,.ptr (q.2+1) 0]) (f96 st sm) NS n:=by
 refine Ev.succ ((((hy.and hs).and (hr.and (Ev.ge 30)))).mono fun n ⟨⟨hy,hs⟩,hr,hn⟩ q z E s m p hp ⟨H,r1,r2,r3,r4⟩ hlv=>?_)
 rw[qh0 CP (by omega)]
 simp only[zaJ,zaF]
 obtain⟨q,M⟩:=q
 obtain⟨y,a⟩:=z
 obtain⟨x,t⟩:=p
 simp only at r1 r2 r3 r4 hlv
 suffices ∃s',s96 (qag CP n E) n (vw x t).v (.ptr (M+2) 0) (.ptr (l7 q) 0) (.ptr M 0) (.ptr (M+1) 0) s=some (bl (f96 st sm (y,a) (x,t)).2,s')/\R96 N0 yv U (q,M) (f96 st sm (y,a) (x,t)).1 E s'/\((f96 st sm (y,a) (x,t)).2=true->live m (f96 st sm (y,a) (x,t)).1.1) by
  obtain⟨s',e1,e2,e3⟩:=this
  refine⟨s',?_,e2,e3⟩
  rw[qb4]
  exact qfy (cf:=cf96) (np:=5) (args':=[(vw x t).v,.ptr (M+2) 0,.ptr (l7 q) 0,.ptr M 0,.ptr (M+1) 0]) (v:=bl (f96 st sm (y,a) (x,t)).2) (by kernel_rfl) (by kernel_rfl) rfl rfl rfl ((s96_eq _ _ _ _ _ _ _ _).trans e1) rfl rfl
 have hpre:∀b:Int,∀v∈qk0 yv q M b,N0 q<=v.1:=by
  intro b v hv
  simp only[qk0,zaA,zaD,or_false] at hv
  rcases hv with rfl|rfl|rfl<;>simp only<;>omega
 have c2:∀(s:ASt) H,s.heap=qk0 yv q M a++H->qar (qag CP n E).E s (M+2)=some [ruV]:=fun s H h=>by rw[qa9];exact qaS h
 have c1:∀(s:ASt) H,s.heap=qk0 yv q M a++H->qar (qag CP n E).E s (M+1)=some [i64 a]:=fun s H h=>by
  rw[qa9,qbx h (by omega)]
  exact qaS (s:={s with heap:=(M+1,.cells [i64 a])::(M,.cells [yv q])::H}) rfl
 have c0:∀(s:ASt) H,s.heap=qk0 yv q M a++H->qar (qag CP n E).E s M=some [yv q]:=fun s H h=>by
  have h':s.heap=(M+1+1,.cells [ruV])::(M+1,.cells [i64 a])::(M,.cells [yv q])::H:=h
  rw[qa9,qiB h' (by omega)]
  exact qaS (s:=⟨0,(M,.cells [yv q])::H,0,[]⟩) rfl
 have c7:∀(s:ASt) H y,s.heap=qk0 yv q M a++H->U q y E H (qnd s)->qar (qag CP n E).E s (l7 q)=some [someV q]:=fun s H y h hu=>by
  obtain⟨h1,h2⟩:=hU q y E H _ hu
  rw[qa9,qfg h fun v hv=>by have:=hpre a v hv;omega]
  exact h1
 have one:∀v:zA,ldL [v] 0 none=some v:=fun _=>rfl
 unfold s96
 simp only[ldP (c2 s H r1),one,qaH,zaa,qbq]
 unfold s96_2
 generalize hF:(fun(h16:zA->Nat->Nat->List zA->List zA->List zA->ASt->Res) (x9:zA) (g10 g11:Nat) (c12 c13 c14:List zA) (s15:ASt)=>_)=F
 have key:∀(r:List Nat) (j k g g':Nat) (c c':List zA) (y:σ) (s:ASt) (H:qaR),ruL.drop j=r->j+r.length=22->r.length<k->s.heap=qk0 yv q M a++H->s.next=M+3->U q y E H (qnd s)->live (m+r.length) y->
   ∃s',lp (fun _ _ _ _ _ _ _=>none) F k (i64 (.ofNat j)) g g' (vw x t).c c c' s=some (bl (qbz st y (r.filterMap fun i=>if sm (.ofNat (i+1)) then(qbn i x t).map fun u=>((.ofNat (i+1):Int),a,u) else none)).2,s')/\
    ((qbz st y (r.filterMap fun i=>if sm (.ofNat (i+1)) then(qbn i x t).map fun u=>((.ofNat (i+1):Int),a,u) else none)).2=true->R96 N0 yv U (q,M) ((qbz st y (r.filterMap fun i=>if sm (.ofNat (i+1)) then(qbn i x t).map fun u=>((.ofNat (i+1):Int),a,u) else none)).1,qbb .i64 (a+1)) E s'/\live m (qbz st y (r.filterMap fun i=>if sm (.ofNat (i+1)) then(qbn i x t).map fun u=>((.ofNat (i+1):Int),a,u) else none)).1)/\
    ((qbz st y (r.filterMap fun i=>if sm (.ofNat (i+1)) then(qbn i x t).map fun u=>((.ofNat (i+1):Int),a,u) else none)).2=false->R96 N0 yv U (q,M) ((qbz st y (r.filterMap fun i=>if sm (.ofNat (i+1)) then(qbn i x t).map fun u=>((.ofNat (i+1):Int),a,u) else none)).1,a) E s'):=by
  intro r
  induction r with
  |nil=>
   intro j k g g' c c' y s H h1 h2 hk r1 r2 r4 hlv
   obtain⟨k,rfl⟩:∃m,k=m+1:=⟨k-1,by simp only[zaB] at hk;omega⟩
   rw[qa6]
   generalize lp _ F k=L
   subst hF
   have hj:j=22:=by simpa using h2
   subst hj
   have hnl:¬(Int.ofNat 22<Int.ofNat 22):=by omega
   have b2:Nat.beq (M+2) (M+1)=false:=beq_false (by omega)
   have hst:stH s (.ptr (M+1) 0) [i64 (qbb .i64 (a+1))]=some {s with heap:=qk0 yv q M (qbb .i64 (a+1))++H}:=by
    have ho:over [i64 a] 0 [i64 (qbb .i64 (a+1))]=some [i64 (qbb .i64 (a+1))]:=rfl
    have haw:[i64 (qbb .i64 (a+1))].all qaY=true:=rfl
    simp only[stH,qbP,r1,qk0,zaF,zaJ,qas,qaK,b2,qaE rfl,cond_true,cond_false,haw,ho,zaa,zab]
   refine⟨{s with heap:=qk0 yv q M (qbb .i64 (a+1))++H},?_,fun _=>⟨⟨H,rfl,r2,r3,r4⟩,hlv⟩,fun h=>by cases h⟩
   simp only[hnl,ldP (c1 s H r1),one,qby,hst,List.filterMap_nil,qbz,qch,qad,qao,qaw,decide_false,qaa,cond_false,qaj,zab,zaa,cnd]
  |cons i r ih=>
   intro j k g g' c c' y s H h1 h2 hk r1 r2 r4 hlv
   obtain⟨k,rfl⟩:∃m,k=m+1:=⟨k-1,by simp only[zar] at hk;omega⟩
   simp only[zar] at h2 hk
   have hj22:j<22:=by omega
   have hij:i=j/\ruL.drop (j+1)=r:=by
    have hg:=qf5 hj22
    have hjl:j<ruL.length:=hj22
    rw[zaz hjl] at h1
    injection h1 with e1 e2
    rw[zah hjl,zac] at hg
    exact⟨e1.symm.trans hg,e2⟩
   obtain⟨rfl,hrd⟩:=hij
   have hlt:Int.ofNat i<Int.ofNat 22:=of_lt.2 hj22
   have hia:iaV 2 ruV (i64 (.ofNat i))=some (qaQ ruC ruL,i*2):=qbR (c:=ruC) (sz:=2) (l:=ruL) hj22
   have hld:∀s,ldH (qag CP n E) s (.elem (qaQ ruC ruL) (i*2)) (some 2)=some (.agg [.p (.str (nm i)),.p (.func (72+i) [] [])]):=fun s=>qdr (c:=ruC) (sz:=2) (fun _=>rfl) _ s (qf5 hj22)
   have hw:=qaN (show i<9223372036854775807 by omega)
   have hw8:=qp3 (show i+1<256 by omega)
   have hsm:=hs q y E H (qk0 yv q M a) s i hj22 r1 (hpre a) r4
   have hru:=hr (x,t) hp i hj22 E s
   have ho2:∀a b c d:zA,over [a,b] 0 [c,d]=some [c,d]:=fun _ _ _ _=>rfl
   have hl1:∀a b:zA,ldL [a,b] 1 none=some b:=fun _ _=>rfl
   have hclf:∀args s,clv (qag CP n E) (.p (.func (72+i) [] [])) args s=cl (qag CP n E) (72+i) args s:=fun args s=>qgk CP (by omega) E _ args s
   have cl2:∀a b:zA,zA.cells (some 2) (.agg [a,b])=some [a,b]:=fun _ _=>rfl
   cases hsmi:sm (.ofNat (i+1)) with
   |false=>
    rw[hsmi] at hsm
    have hnext:=ih (i+1) k (g+1) g' [.p (.str (nm i)),.p (.func (72+i) [] [])] c' y s H hrd (by omega) (by omega) r1 r2 r4 (hmono _ _ hlv)
    have hfm:(List.filterMap (fun i=>if sm (.ofNat (i+1)) then(qbn i x t).map fun u=>((.ofNat (i+1):Int),a,u) else none) (i::r))=r.filterMap fun i=>if sm (.ofNat (i+1)) then(qbn i x t).map fun u=>((.ofNat (i+1):Int),a,u) else none:=by
     rw[List.filterMap_cons_none];simp only[hsmi,zai,if_false]
    rw[hfm]
    obtain⟨s',e1,e2,e3⟩:=hnext
    refine⟨s',?_,e2,e3⟩
    rw[qa6]
    generalize lp _ F k=L at e1⊢
    subst hF
    unfold s96_0
    simp only[hlt,hia,hld,cl2,ho2,za8,hw,qmX,hw8,ldP (c7 s H y r1 r4),one,hsm,qch,qad,qao,qaw,decide_true,zal,qaa,cond_true,qaj,zab,zaa,qab,qam,cnd]
    exact e1
   |true=>
    rw[hsmi] at hsm
    cases hrl:qbn i x t with
    |none=>
     rw[hrl] at hru
     have hnext:=ih (i+1) k (g+1) (g'+1) [.p (.str (nm i)),.p (.func (72+i) [] [])] Tm.z.c y s H hrd (by omega) (by omega) r1 r2 r4 (hmono _ _ hlv)
     have hfm:(List.filterMap (fun i=>if sm (.ofNat (i+1)) then(qbn i x t).map fun u=>((.ofNat (i+1):Int),a,u) else none) (i::r))=r.filterMap fun i=>if sm (.ofNat (i+1)) then(qbn i x t).map fun u=>((.ofNat (i+1):Int),a,u) else none:=by
      rw[List.filterMap_cons_none];simp only[hsmi,hrl,if_true,Option.map_none]
     rw[hfm]
     obtain⟨s',e1,e2,e3⟩:=hnext
     refine⟨s',?_,e2,e3⟩
     rw[qa6]
     generalize lp _ F k=L at e1⊢
     subst hF
     unfold s96_1 s96_0
     simp only[hlt,hia,hld,cl2,ho2,hl1,za8,hw,qmX,hw8,ldP (c7 s H y r1 r4),one,hsm,hclf,hru,qah,qav,qch,qad,qao,qaw,decide_true,zak,qaa,cond_true,cond_false,qaj,zab,zaa,qab,qan,qax,qay,qam,cnd,qaC,zaR,zaG]
     exact e1
    |some u=>
     rw[hrl] at hru
     have hyc:=hy q y E H (qk0 yv q M a) s (.ofNat (i+1),a,u) (m+r.length) (hOS (x,t) hp i hj22 u hrl) r1 (hpre a) (by omega) r4 hlv
     obtain⟨s1,H1,y1,y2,y3,y4,y5⟩:=hyc
     have y1':clv (qag CP n E) (yv q) [.agg [u8 (.ofNat (i+1)),i64 a],u.v] s=some (bl (st y (.ofNat (i+1),a,u)).2,s1):=y1
     have hbd:bd [u8 0,i64 0] [(0,none,.c (u8 (.ofNat (i+1)))),(1,none,.c (i64 a))]=some (.agg [u8 (.ofNat (i+1)),i64 a]):=rfl
     have hfm:(List.filterMap (fun i=>if sm (.ofNat (i+1)) then(qbn i x t).map fun u=>((.ofNat (i+1):Int),a,u) else none) (i::r))=(.ofNat (i+1),a,u)::r.filterMap fun i=>if sm (.ofNat (i+1)) then(qbn i x t).map fun u=>((.ofNat (i+1):Int),a,u) else none:=by
      rw[List.filterMap_cons_some];simp only[hsmi,hrl,if_true,zab]
     rw[hfm]
     simp only[qbz]
     cases hb:(st y (.ofNat (i+1),a,u)).2 with
     |false=>
      rw[hb] at y1'
      refine⟨s1,?_,fun h=>by simp at h,fun _=>?_⟩
      ·rw[qa6]
       generalize lp _ F k=L
       subst hF
       unfold s96_1
       simp only[hlt,hia,hld,cl2,ho2,hl1,za8,hw,qmX,hw8,ldP (c7 s H y r1 r4),ldP (c0 s H r1),ldP (c1 s H r1),one,hsm,hclf,hru,hbd,y1',zai,if_false,qah,qaU,qav,qch,qad,qao,qaw,decide_true,zak,zal,qaa,cond_true,cond_false,qaj,zab,zaa,qab,qan,qax,qay,qam,cnd,qaC,zaE,zbj]
      ·simp only[zai,if_false]
       exact⟨H1,y2,y3.trans r2,r3,y4⟩
     |true=>
      rw[hb] at y1'
      simp only[if_true]
      have hnext:=ih (i+1) k (g+1) (g'+1) [.p (.str (nm i)),.p (.func (72+i) [] [])] u.c (st y (.ofNat (i+1),a,u)).1 s1 H1 hrd (by omega) (by omega) y2 (y3.trans r2) y4 (y5 hb)
      obtain⟨s',e1,e2,e3⟩:=hnext
      refine⟨s',?_,e2,e3⟩
      rw[qa6]
      generalize lp _ F k=L at e1⊢
      subst hF
      unfold s96_1 s96_0
      simp only[hlt,hia,hld,cl2,ho2,hl1,za8,hw,qmX,hw8,ldP (c7 s H y r1 r4),ldP (c0 s H r1),ldP (c1 s H r1),one,hsm,hclf,hru,hbd,y1',qah,qaU,qav,qch,qad,qao,qaw,decide_true,zak,qaa,cond_true,cond_false,qaj,zab,zaa,qab,qan,qax,qay,qam,cnd,qaC,zaE,zbj]
      exact e1
 obtain⟨s',e1,e2,e3⟩:=key ruL 0 n 0 0 [] [] y s H rfl rfl (by show 22<n;omega) r1 r2 r4 hlv
 have hoff:(ruL.filterMap fun i=>if sm (.ofNat (i+1)) then(qbn i x t).map fun u=>((.ofNat (i+1):Int),a,u) else none)=qdv sm x t a:=rfl
 rw[hoff] at e1 e2 e3
 unfold f96
 simp only
 cases hb:(qbz st y (qdv sm x t a)).2 with
 |true=>
  rw[hb] at e1
  simp only[if_true]
  exact⟨s',e1,(e2 hb).1,fun _=>(e2 hb).2⟩
 |false=>
  rw[hb] at e1
  simp only[zai,if_false]
  exact⟨s',e1,e3 hb,fun h=>by cases h⟩
end
end Go.AI.Tryz
namespace Go.AI
theorem qvZ (s:ASt)(zs cs new:List zA)(o:Nat)(p:zH)(ha:cs.all qaY=true)(h:over zs o cs=some new):stH (qal (qal s (.cells zs)) p) (.ptr s.next o) cs=some (qal (qal s (.cells new)) p):=by
 have b:Nat.beq (s.next+1) s.next=false:=Tryz.beq_false (by omega)
 unfold stH qbP qal
 simp only[qas,qaK,b,qaE rfl,cond_true,cond_false,ha,h,zaa,zab]
end Go.AI
namespace Go.AI.Tryz
mutual
theorem qbO:∀(t:Tm) (x:Sc),(qbi t x).length=t.size
 |.mk k n m i ks,x=>by
  simp only[qbi,zar,qf6 ks,Tm.size];omega
theorem qf6:∀(ks:List Tm) (sc:Nat->Sc) (j:Nat),(qbe sc j ks).length=Tm.sizeL ks
 |[],_,_=>rfl
 |u::r,sc,j=>by simp only[qbe,zaw,qbO u,qf6 r,Tm.sizeL]
end
theorem qp4 {x:Sc}{t:Tm}(h:(szF x t).2=true):¬t.k=17:=by
 have hs:=qdj h
 intro hk
 cases hs<;>first
  |(simp only[Tm.k_mk] at hk;omega)
  |(rw[qdQ] at h;cases h)
theorem qtX {x:Sc}{t:Tm}(h:Nd x t):Ev fun n=>qx6 (qbi t x) n:=by
 refine Ev.mono (Ev.all (P:=fun(p:Sc×Tm) n=>∀(j:Nat) u,p.2.ks[j]? =some u->∀E s,cl (qag CP n E) 132 [(vw p.1 p.2).v,i64 (.ofNat j)] s=some ((vw (p.1.kid p.2 j) u).v,s)) (qbi t x) fun p hp=>?_) fun n h p hp=>h p hp
 obtain⟨hn,_⟩:=qfG _ t x (zan _) h p hp
 have hall:=Ev.all (P:=fun(j:Nat) n=>∀u,p.2.ks[j]? =some u->∀E s,cl (qag CP n E) 132 [(vw p.1 p.2).v,i64 (.ofNat j)] s=some ((vw (p.1.kid p.2 j) u).v,s)) (List.range p.2.ks.length) fun j hj=>by
  have hjl:j<p.2.ks.length:=zba.1 hj
  have hu:p.2.ks[j]? =some p.2.ks[j]:=zah hjl
  have:=qpM p.1 p.2 p.2.ks[j] j hu hn.b (fun hk _=>by
   rcases hn.w with h|⟨b,h⟩
   ·exact absurd hk (qp4 h)
   ·rcases qfE h with h|⟨i,e,h,_⟩|⟨u,w,h,h1,_⟩
    ·exact absurd hk (qp4 (x:=p.1) (by rw[h]))
    ·rw[h] at hk;simp only[Tm.k_mk] at hk;omega
    ·exact⟨u,by rw[h];rfl,by rw[h1]⟩)
  refine this.mono fun n h u hu' E s=>?_
  rw[hu,zac] at hu'
  subst hu'
  exact h E s
 refine hall.mono fun n h j u hu E s=>h j (zba.2 (zao.1 hu).1) u hu E s
theorem qrS {x:Sc}{t:Tm}(h:Nd x t)(hs:t.size<=900000):Ev fun n=>RuA (qbi t x) n:=by
 refine Ev.mono (Ev.all (P:=fun(p:Sc×Tm) n=>∀i,i<22->∀E s,cl (qag CP n E) (72+i) [(vw p.1 p.2).v] s=some (qc8 (qbn i p.1 p.2),s)) (qbi t x) fun p hp=>?_) fun n h p hp=>h p hp
 obtain⟨hn,hsz⟩:=qfG _ t x (zan _) h p hp
 have hall:=Ev.all (P:=fun(i:Nat) n=>∀E s,cl (qag CP n E) (72+i) [(vw p.1 p.2).v] s=some (qc8 (qbn i p.1 p.2),s)) (List.range 22) fun i hi=>qvX hn (by omega) i (zba.1 hi)
 exact hall.mono fun n h i hi=>h i (zba.2 hi)
section
variable {κ σ:Type} {N0 l4 l7:κ->Nat} {yv someV:κ->zA} {U:κ->σ->qaR->qaR->Nat×List (Nat×Nat×Nat)->Prop} {st:σ->Of->σ×Bool} {sm:Int->Bool} {OS:Tm->Prop} {live:Nat->σ->Prop}
theorem qp5 {x:Sc}{t:Tm}(hnd:Nd x t)(hsz:t.size<=900000)(hmono:∀m y,live (m+1) y->live m y)(ha:∀q,qaY (yv q)=true)(hw:∀q,qbF (yv q)=true)(he:∀q,qaD (yv q)=yv q)(hce:∀q,zA.cells none (yv q)=some [yv q])
  (hU:∀q y E H tk,U q y E H tk->qdC E H (l7 q)=some [someV q]/\l7 q<N0 q)(hU4:∀q y E H tk,U q y E H tk->qdC E H (l4 q)=some (vw x t).c/\l4 q<N0 q)
  (hOS:∀p∈qbi t x,∀i,i<22->∀u,qbn i p.1 p.2=some u->OS u)
  (hy:Ev fun n=>YC N0 yv U st OS live n)(hs:Ev fun n=>SmC N0 someV U sm n):
  Ev fun n=>∀q y E s,N0 q<=s.next->U q y E s.heap (qnd s)->live (22*t.size) y->∃s' pre' H',cl (qag CP n E) 94 [yv q,.ptr (l4 q) 0,.ptr (l7 q) 0] s=some (.tuple [],s')/\s'.heap=pre'++H'/\(∀v∈pre',N0 q<=v.1)/\s'.next=s.next+3/\U q (qbz st y (qcO sm 0 (qbi t x))).1 E H' (qnd s'):=by
 have hwalk:=qsI (κ:=κ×Nat) (fun _=>rfl) (fun _=>rfl) (qxH (NS:=qbi t x) hmono hU hOS hy hs (qrS hnd hsz)) (qtX hnd) t.size (by omega)
 refine Ev.succ ((hwalk.and qp2).mono fun n ⟨h,h50⟩ q y E s hN hu hlv=>?_)
 let M:=s.next
 let s16:=qal (qal (qal s (.cells [yv q])) (.cells [i64 0])) (.cells [ruV])
 have hR:R96 N0 yv U (q,M) (y,0) E s16:=⟨s.heap,rfl,rfl,hN,hu⟩
 obtain⟨s',e1,⟨H',r1,r2,r3,r4⟩,_⟩:=h (q,M) t x (zan _) (fun p hp=>hp) (y,0) E s16 0 hR (by rw[zaK];exact hlv)
 have hf:=qsJ st sm (qbi t x) y 0
 rw[qnc sm (qbi t x) 0 (by omega) (by rw[qbO];omega)] at hf
 rw[hf.1] at r4
 refine⟨s',qk0 yv q M (qbz (f96 st sm) (y,0) (qbi t x)).1.2,H',?_,r1,?_,r2,r4⟩
 ·rw[qb4]
  refine qfy (cf:=cf94) (np:=3) (args':=[yv q,.ptr (l4 q) 0,.ptr (l7 q) 0]) (v:=.tuple []) (by kernel_rfl) (by kernel_rfl) rfl (by simp only[zap,hw];rfl) (by simp only[zam,he];rfl) ((s94_eq _ _ _ _ _ _).trans ?_) rfl rfl
  have haw:[yv q].all qaY=true:=by simp only[zap,ha,List.all_nil,zat]
  have hst1:stH (qal (qal (qal s (.cells [yv q])) (.cells [i64 0])) (.cells [.sl 0 [] .full])) (.ptr (qal s (.cells [yv q])).next 0) [i64 0]=some (qal (qal (qal s (.cells [yv q])) (.cells [i64 0])) (.cells [.sl 0 [] .full])):=qvZ _ _ _ _ _ _ rfl rfl
  have hst2:stH (qal (qal (qal s (.cells [yv q])) (.cells [i64 0])) (.cells [.sl 0 [] .full])) (.ptr (qal (qal s (.cells [yv q])) (.cells [i64 0])).next 0) [ruV]=some s16:=qjv _ _ _ _ _ rfl rfl
  have hcr:zA.cells none ruV=some [ruV]:=rfl
  obtain⟨h4,h4l⟩:=hU4 q y E s.heap _ hu
  have hc4:qar (qag CP n E).E s16 (l4 q)=some (vw x t).c:=by
   rw[qa9,qfg (s:=s16) (pre:=qk0 yv q M 0) (H:=s.heap) rfl]
   ·exact h4
   ·intro v hv
    simp only[qk0,zaA,zaD,or_false,M] at hv
    rcases hv with rfl|rfl|rfl<;>simp only<;>omega
  have e1':cl (qag CP n E) 95 [(vw x t).v,.func 96 [] [.ptr (qal (qal s (.cells [yv q])) (.cells [i64 0])).next 0,.ptr (l7 q) 0,.ptr s.next 0,.ptr (qal s (.cells [yv q])).next 0]] s16=some (_,s'):=e1
  unfold s94
  simp only[hce,haw,h50,qby,hst1,hcr,hst2,ldP hc4,e1',qch,zaa,qab,qa3,qbw,cnd]
 ·intro v hv
  simp only[qk0,zaA,zaD,or_false,M] at hv
  rcases hv with rfl|rfl|rfl<;>simp only<;>omega
end
theorem qp6 {ι:Type}(y:Vw)(fv:ι->zA)(ha:∀i,qaY (fv i)=true)(hw:∀i,qbF (fv i)=true)(he:∀i,qaD (fv i)=fv i)(hce:∀i,zA.cells none (fv i)=some [fv i]):
  Ev fun n=>∀i E s,cl (qag CP n E) 54 [y.v,fv i] s=some (.func 94 [] [.ptr s.next 0,.ptr (s.next+1) 0],qal (qal s (.cells y.c)) (.cells [fv i])):=by
 refine Ev.succ (Ev.of fun n i E s=>?_)
 rw[qb4]
 refine qfy (cf:=cf54) (np:=2) (args':=[y.v,fv i]) (v:=.func 94 [] [.ptr s.next 0,.ptr (s.next+1) 0]) (by kernel_rfl) (by kernel_rfl) rfl (by simp only[zap,qb9,hw];rfl) (by simp only[zam,qca,he];rfl) ((s54_eq _ _ _ _ _).trans ?_) rfl rfl
 have haw:[fv i].all qaY=true:=by simp only[zap,ha,List.all_nil,zat]
 unfold s54
 simp only[hce,haw,qaH,qds,zaa,qa3,qbw,cnd]
 rfl
end Go.AI.Tryz
