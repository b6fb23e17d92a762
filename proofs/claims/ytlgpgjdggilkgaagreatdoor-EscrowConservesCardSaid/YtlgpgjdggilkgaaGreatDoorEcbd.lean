/- Lemmas. -/
import Derived.Test.YtlgpgjdggilkgaaGreatDoorEcbc
set_option linter.all false
set_option maxHeartbeats 2000000
namespace Go.V
section
variable {P:Program}{N:Nat}{env:Env}{L:LH}{ty:TypeId}{κ α:Type}[DecidableEq κ]
def Ev.y9{t:TypeId}{x y:Operand}{K E:Nat}{z a0:Value}(kv:κ→Value){k:κ}[ht:TyG P t K E z][hk:KeyT P K kv](hx:evE env x=some (.map none))(hy:evE env y=some a0)[a1:KeyVal kv a0 k] :
  Ev P L env (.lookup t x y false) ty z :=
 Ev.mk (fun θ R _ w ea s _ _ _ _=>by
  obtain rfl:=a1.eq;have h3:=ht.zero;have hf:=pk (P:=P) (K:=K) (kv:=kv) (enc:=fun v:Value=>v) (m:=[]) (es:=#[]) k w rfl;simp at hf;cases hi:P.info? E with
  | none=>rw[hi] at h3;cases h3
  | some i =>
   rw[hi] at h3;simp at h3;simp[execOp,aL ea hx,aL ea hy,Instr.lookup,run_underlying ht.under,hk.check,zeroValue,typeInfo,hi,h3,hf])
omit [DecidableEq κ] in
def Ev.lenG{t:TypeId}{x:Operand}{b K E:Nat}{z:Value}{kv:κ→Value}{enc:α→Value}{m:List (κ×α)}{Rest:LH}[ht:TyG P t K E z][hp:PickG L b κ α kv enc m Rest](hx:evE env x=some (.map (some b))) :
  Ev P L env (.call { callee:=.builtin .len,args:=#[x],argTypes:=#[t] }) ty (ac (m.length:Int)) :=
 Ev.mk (fun θ R _ w ea s _ _ _ _=>by
  obtain⟨es,a0,e1,e2,e3,e4,e5,s2⟩:=(s.perm (hp.perm.append_right R)).gmap_parts;have hb:=s2.own_heap;have a1:(getObj b).run P w=.ok (.map es a0) w:=by simp[getObj,Sem.run,hb]
  have hl:es.size=m.length:=by
   have:=congrArg List.length e1
   simpa using this
  simp[execOp,resolve,invoke,builtin,aL ea hx,Builtin.len_,run_underlying ht.under,goInt,a1,hl])
def Ev.g9{t:TypeId}{x:Operand}{ad:OA}{sz j o n:Nat}{α:Type}[Inhabited α]{enc:α→LV}{xs:List α}{vs:LV}[ht:TyAgg P t n][hr:Rds L ad α enc sz xs]
  (hx:evE env x=some (.pointer (elP ad sz j o))) (hj:j<xs.length) (hs:subK o n (enc xs[j]!) some=some vs):Ev P L env (.load t x) ty (.agg vs.toArray) :=
 Ev.mk (fun θ R _ w ea s _ _ _ _=>by
  obtain⟨q1,q2⟩:=qP _ _ _ _ _ hs;simp only[Option.some.injEq] at q2;subst q2;obtain⟨h1,h2⟩:=hr.rd θ R w s;rcases h2 with h2|⟨a,rfl,h3⟩
  ·subst h2;simp at hj
  ·have a2:(enc xs[j]!).length=sz:=h1 _ (by rw[List.getElem!_eq_getElem?_getD,List.getElem?_eq_getElem hj];simp);have a0:=fun k (hk:k<sz)=>mX (enc:=enc) (sz:=sz) (xs:=xs) (j:=j) (o:=k) h1 hj hk;generalize enc xs[j]! = cs at *
   have hl:=run_loadCells_list (P:=P) w (a.add (j*sz+o)) ((cs.drop o).take n) (fun i v hv=>by
    have hi:i<n:=by have:=(List.getElem?_eq_some_iff.1 hv).1;simp at this;omega
    have ho:o+i<sz:=by
     have:=(List.getElem?_eq_some_iff.1 hv).1
     simp at this;omega
    have e:(a.add (j*sz+o)).add i=a.add (j*sz+(o+i)):=by
     unfold Addr.add;(repeat' split)<;>first|rfl|omega|(simp;omega)|(simp_all;done)
    rw[e];refine h3 _ v ?_;rw[a0 _ ho];simp[hi] at hv;exact hv)
   have a1:((cs.drop o).take n).length=n:=by simp;omega
   rw[a1] at hl;simp[execOp,aL ea hx,elP,Instr.loadAt,Instr.sureAddr,loadVar,ht.run,TyAgg.sizeOf_run,hl])
end
end Go.V
namespace Go.Proofs.YtlgpgjdggilkgaaGreatDoor
section
open Go.V
abbrev tMs:Nat:=98
abbrev tEx:Nat:=150
structure MsM where
 frm:Int
 to:Int
 ct:CtM
 deriving Inhabited,DecidableEq
structure MsV where
 m:MsM
 ad:OA
 cap:Nat
 deriving Inhabited
def bC(x:MsV):LV:=[ac x.m.frm,ac x.m.to,ag x.ad (ctB x.m.ct).length x.cap]
def eJ(x:MsV):∀u∈bC x,u.oneCell' = true:=by simp[bC,Value.oneCell']
instance:EncC bC:=⟨eJ⟩
abbrev msP(x:MsV):HP:=isl (encZ .u8) 1 x.ad (ctB x.m.ct)
def fq(x:MsV):PersM (msP x):=bO _ _ _ _
def bT(b:Bool):Value:=.bool b
def tfL(l:List Int):List (Int×Bool):=l.map fun g=>(g,true)
def wP(k:Int):∀l:List Int,((glk (tfL l) k).map bT).getD (.bool false)=.bool (dB (k∈l))
 | []=>by rw[aW (fun h=>absurd h ay)];rfl
 | g::l=>by
  by_cases h:k=g
  ·subst h;rw[bE av];simp[tfL,bT,glk]
  ·have h2:(k == g)=false:=by simpa using h
   have ih:=wP k l;rw[show dB (k∈g::l)=dB (k∈l) by rw[dK,dK];simp[h],←ih];unfold tfL glk;rw[aF,cx];simp only[h2]
structure ExV where
 b:Nat
 legs:List LegV
 lad:OA
 lcap:Nat
 givers:List Int
 gad:OA
 gcap:Nat
 until_:Int
 voted:List Int
 mv:Nat
 told:List Int
 mt:Nat
 dec:Bool
 takes:Bool
 deriving Inhabited
def exC(x:ExV):LV:=[ag x.lad x.legs.length x.lcap,ag x.gad x.givers.length x.gcap,ac x.until_,.map (some x.mv),.map (some x.mt),.bool x.dec,.bool x.takes]
attribute [local irreducible] G GO GP GPW GPK GF GE Ev Ef EfR Ent CB GB V.Enters
abbrev Ap:=XB [.ef 6,.ev 7,.ef 8]
def Sb{φ ψ:Prop}(k:ψ)(h:Hid ψ→φ:=by intro k;(repeat (first|refine aa ?_|intro zzz|refine G.dr 15 1 Ap ?_));(repeat revert zzz);exact Hid.out k):φ:=h ⟨k⟩
def fB{L:LH}(nb lb:Nat)(sh shs cnt hl:Int)(mb mp mr:Nat)(to:Int)(c:CtV)(hc:CtOk c.m) :
  Tri Tryz.prog 148 #[ax nb,ac to,aU (eW c)] (obj nb tNd (ndC lb sh shs cnt hl mb mp mr)::ctP c::L) (fun v L'=>∃x:MsV,v=aU (bC x)∧x.m=⟨sh,to,c.m⟩∧L' = msP x::obj nb tNd (ndC lb sh shs cnt hl mb mp mr)::ctP c::L):=by
 refine Tri.bd ?_;simp only[ndC];refine Sb ?_;intros;rename_i bc br;refine GPW.ent (L':=ctP c::(obj br tMs [ac 0,ac 0,ag none 0 0]::obj nb tNd [ax lb,ac sh,ac shs,ac cnt,ac hl,.map (some mb),.map (some mp),.map (some mr)]::L)) ah ?_;refine GPW.ca (AK c hc) ?_;rintro _ _⟨ad,cap,rfl,rfl⟩;refine Sb ?_;intros;refine KX.a8 (by exact ResOk.cell rfl aQ (ResOk.nil)) ?_ ⟨⟨⟨sh,to,c.m⟩,ad,cap⟩,rfl,rfl,rfl⟩;refine(Ent.at (A:=osl (encZ .u8) 1 5 ad cap (ctB c.m)) Ent.freezeSl).trans ?_;exact ah
def dl(sh:Int)(gs:List Int)(W:List Int)(ct:CtM):List MsM:=(gs.filter fun g=>decide (¬g∈W)).map fun g=>⟨sh,g,ct⟩
def zm(sh:Int)(gs W:List Int)(ct:CtM){i:Nat}(h:i<gs.length):dl sh (gs.take (i+1)) W ct=dl sh (gs.take i) W ct++(if gs[i]!∈W then[] else[⟨sh,gs[i]!,ct⟩]):=by
 unfold dl;rw[az h,cI,aJ,getElem!_of h];congr 1;by_cases q:gs[i]∈W
 ·rw[if_pos q];simp[q]
 ·rw[if_neg q];simp[q]
def jQ(sh:Int)(gs W:List Int)(ct:CtM):(dl sh gs W ct).length≤gs.length:=by
 unfold dl;rw[an];exact dv _ _
def mh{L:LH}(nb lb:Nat)(sh shs cnt hl:Int)(mb mp mr:Nat)(x:ExV)(hg:x.givers.length≤100)(c:CtV)(hc:CtOk c.m)(mw:Option Nat)(W:List Int)(hW:(mw=none∧W=[])∨∃b R,mw=some b∧L=gmap kvI bT b (tfL W)::R) :
  Tri Tryz.prog 114 #[ax nb,.pointer (some ⟨x.b,0,none⟩),aU (eW c),.map mw] (obj nb tNd (ndC lb sh shs cnt hl mb mp mr)::ctP c::obj x.b tEx (exC x)::isl (encZ .i64) 1 x.gad x.givers::L) (fun v L'=>∃ad cap ms,v=ag ad ms.length cap∧ms.map (·.m)=dl sh x.givers W c.m∧L' = osl bC 3 tMs ad cap ms::allP msP ms::obj nb tNd (ndC lb sh shs cnt hl mb mp mr)::ctP c::obj x.b tEx (exC x)::isl (encZ .i64) 1 x.gad x.givers::L):=by
 refine Tri.bd ?_;simp only[ndC,exC];refine Ks ?_;intros;rename_i b6;refine G.loop (α:=Nat×OA×Nat×List MsV) (fun g=>g.1≤x.givers.length∧g.2.2.2.map (·.m)=dl sh (x.givers.take g.1) W c.m) (fun g=>[(0,ax nb),(3,.map mw),(6,ax b6),(9,ag g.2.1 g.2.2.2.length g.2.2.1),(15,ag x.gad x.givers.length x.gcap),(16,ac (x.givers.length:Int)),(17,ac (g.1:Int))]) (fun g=>osl bC 3 tMs g.2.1 g.2.2.1 g.2.2.2::allP msP g.2.2.2::obj b6 tCt (eW c)::obj nb tNd [ax lb,ac sh,ac shs,ac cnt,ac hl,.map (some mb),.map (some mp),.map (some mr)]::ctP c::obj x.b tEx [ag x.lad x.legs.length x.lcap,ag x.gad x.givers.length x.gcap,ac x.until_,.map (some x.mv),.map (some x.mt),.bool x.dec,.bool x.takes]::isl (encZ .i64) 1 x.gad x.givers::L) (fun g=>x.givers.length - g.1) (0,none,0,[]) ⟨aw _,by dsimp only;rw[aR];rfl⟩ aC ?_ ?_
 ·dsimp only;refine(Ent.c7 msP).trans ((Ent.c8 bC 3 tMs).trans ?_);exact ah
 rintro⟨i,ad,cap,ms⟩ ⟨hi,a1⟩;dsimp only at hi a1 ⊢
 have a7:ms.length≤100:=by
  have h1:=congrArg List.length a1;have h2:=jQ sh (x.givers.take i) W c.m;rw[an] at h1;rw[aK] at h2;omega
 by_cases a6:i<x.givers.length
 case neg =>
  rw[aD ab] at a1;refine Ks ?_;intros;exact KX.en ⟨ad,cap,ms,rfl,a1,rfl⟩
 have a4:(i:Int).toNat=i:=ab;have a2:=zm sh x.givers W c.m a6;refine Ks ?_;intros;rw[a4];rcases hW with⟨rfl,rfl⟩|⟨b,R,rfl,rfl⟩
 ·refine GO.ev (Ev.y9 kvI rfl rfl) ae ?_;have hq:¬x.givers[i]!∈([]:List Int):=ay;rw[if_neg hq] at a2;refine Ks ?_;intros;refine GO.ent (L':=obj nb tNd [ax lb,ac sh,ac shs,ac cnt,ac hl,.map (some mb),.map (some mp),.map (some mr)]::ctP c::(osl bC 3 tMs ad cap ms::allP msP ms::obj b6 tCt (eW c)::obj x.b tEx [ag x.lad x.legs.length x.lcap,ag x.gad x.givers.length x.gcap,ac x.until_,.map (some x.mv),.map (some x.mt),.bool x.dec,.bool x.takes]::isl (encZ .i64) 1 x.gad x.givers::L)) ah ?_;refine GO.ca (fB nb lb sh shs cnt hl mb mp mr x.givers[i]! c hc) ?_;rintro _ _⟨y,rfl,hy,rfl⟩;simp only[ndC];refine Ks ?_;intros;refine GO.ef (Ef.a8 (enc:=bC) (e:=y) rfl rfl rfl rfl rfl aQ (eJ _) ab ab) ae ?_;rintro _ _⟨a3,a0,rfl,rfl⟩;refine Ks ?_;intros;refine⟨(i+1,a3,a0,ms++[y]),⟨by dsimp only;omega,by dsimp only;rw[aJ,a1,a2,aF,bG,hy]⟩,by dsimp only;omega,?_,?_⟩
  ·dsimp only;rw[bh i];exact aC
  ·dsimp only;refine(Ent.at (A:=msP y) (Ent.d8 (f:=msP) fq)).trans ?_;refine(Ent.at (A:=allP msP [y]) (Ent.refl _)).trans ?_;refine(Ent.at (A:=allP msP ms) (Ent.refl _)).trans ?_;refine(Ent.d7 (f:=msP) fq).trans ?_;exact ah
 ·refine GO.ev (Ev.f9 rfl rfl) ae ?_;have a5:=wP x.givers[i]! W;rw[show(Option.map bT (List.lookup x.givers[i]! (tfL W))).getD (.bool false)=.bool (dB (x.givers[i]!∈W)) from a5];by_cases hq:x.givers[i]!∈W
  ·rw[if_pos hq,aH] at a2;rw[bE hq];refine Ks ?_;intros;refine⟨(i+1,ad,cap,ms),⟨by dsimp only;omega,by dsimp only;rw[a2,a1]⟩,by dsimp only;omega,?_,by exact ah⟩;dsimp only;rw[bh i];exact aC
  ·rw[if_neg hq] at a2;rw[aW hq];refine Ks ?_;intros;refine GO.ent (L':=obj nb tNd [ax lb,ac sh,ac shs,ac cnt,ac hl,.map (some mb),.map (some mp),.map (some mr)]::ctP c::(osl bC 3 tMs ad cap ms::allP msP ms::obj b6 tCt (eW c)::obj x.b tEx [ag x.lad x.legs.length x.lcap,ag x.gad x.givers.length x.gcap,ac x.until_,.map (some x.mv),.map (some x.mt),.bool x.dec,.bool x.takes]::isl (encZ .i64) 1 x.gad x.givers::gmap kvI bT b (tfL W)::R)) ah ?_;refine GO.ca (fB nb lb sh shs cnt hl mb mp mr x.givers[i]! c hc) ?_;rintro _ _⟨y,rfl,hy,rfl⟩;simp only[ndC];refine Ks ?_;intros;refine GO.ef (Ef.a8 (enc:=bC) (e:=y) rfl rfl rfl rfl rfl aQ (eJ _) ab ab) ae ?_;rintro _ _⟨a3,a0,rfl,rfl⟩;refine Ks ?_;intros;refine⟨(i+1,a3,a0,ms++[y]),⟨by dsimp only;omega,by dsimp only;rw[aJ,a1,a2,aF,bG,hy]⟩,by dsimp only;omega,?_,?_⟩
   ·dsimp only;rw[bh i];exact aC
   ·dsimp only;refine(Ent.at (A:=msP y) (Ent.d8 (f:=msP) fq)).trans ?_;refine(Ent.at (A:=allP msP [y]) (Ent.refl _)).trans ?_;refine(Ent.at (A:=allP msP ms) (Ent.refl _)).trans ?_;refine(Ent.d7 (f:=msP) fq).trans ?_;exact ah
end
section
open Go.V
abbrev tOw:Nat:=197
abbrev tPt:Nat:=155
structure OwM where
 leg:LegM
 index:Int
 state:Int
 flows:List Int
 deriving Inhabited,DecidableEq
structure OwV where
 leg:LegV
 index:Int
 state:Int
 flows:List Int
 fad:OA
 fcap:Nat
 deriving Inhabited
def OwV.m(o:OwV):OwM:=⟨o.leg.m,o.index,o.state,o.flows⟩
def dH(o:OwV):LV:=[ac o.leg.m.sh,ac o.leg.m.fr,ac o.leg.m.ts,ac o.leg.m.to,ag o.leg.ad o.leg.m.am.length o.leg.cap,ac o.index,ac o.state,ag o.fad o.flows.length o.fcap]
def FK(o:OwV):∀u∈dH o,u.oneCell' = true:=by simp[dH,Value.oneCell']
def owP(o:OwV):HP:=andP (legP o.leg) (isl (encZ .i64) 1 o.fad o.flows)
def oT(o:OwV):PersM (owP o):=PersM.and (fC _) (bO _ _ _ _)
def EY{o:OwV}{L:LH}:Ent (owP o::L) (legP o.leg::isl (encZ .i64) 1 o.fad o.flows::L):=Ent.andE
def OwOk(o:OwM):Prop:=lM o.leg∧I64 o.index∧o.flows.length≤1000∧∀f∈o.flows,I64 f
def iH(sh id:Int)(o:OwM):MsM:=⟨sh,o.leg.ts,⟨5,id,o.index,false,[o.leg],o.flows⟩⟩
def mO{id:Int}{o:OwM}(a0:I64 id)(h:OwOk o):CtOk (⟨5,id,o.index,false,[o.leg],o.flows⟩:CtM):=by
 obtain⟨h1,h2,h3,h4⟩:=h;exact⟨⟨by dsimp only;unfold I64;omega,a0,h2⟩,by simp,fun l hl=>by rw[List.mem_singleton.1 hl];exact h1,h3,h4⟩
attribute [local irreducible] G GO GP GPW GPK GF GE Ev Ef EfR Ent CB GB V.Enters
abbrev Dg:=XB [.ev 6,.ef 7,.ef 8]
def eX{φ ψ:Prop}(k:ψ)(h:Hid ψ→φ:=by intro k;(with_reducible apply G.a8);first|refine G.dr 31 2 Dg (Hid.out k)):φ:=h ⟨k⟩
def Sd{φ ψ:Prop}(k:ψ)(h:Hid ψ→φ:=by intro k;(repeat (first|refine aa ?_|intro zzz|refine eX ?_));(repeat revert zzz);exact Hid.out k):φ:=h ⟨k⟩
def pB{L:LH}(nb lb:Nat)(sh shs cnt hl:Int)(mb mp mr:Nat)(id:Int)(a0:I64 id)(pad:OA)(hA:uc pad)(os:List OwV)[hr:Rds L pad OwV dH 8 os](i:Nat)(hi:i<os.length)(o:OwV)(ho:os[i]! = o)(a1:OwOk o.m) :
  Tri Tryz.prog 98 #[ax nb,ac id,.pointer (elP pad 8 i 0)] (obj nb tNd (ndC lb sh shs cnt hl mb mp mr)::owP o::L) (fun v L'=>∃x:MsV,v=aU (bC x)∧x.m=iH sh id o.m∧L' = msP x::obj nb tNd (ndC lb sh shs cnt hl mb mp mr)::owP o::L):=by
 subst ho;refine Tri.bd ?_;refine G.ent (Ent.at (A:=owP os[i]!) ((Ent.dup (oT os[i]!).pers).trans EY)) ?_;simp only[ndC];repeat first|refine G.sn 1 ?_|refine dq ?_|intro _|refine eX ?_
 rename_i b6;refine G.c7 (α:=Nat×Nat) (fun _=>True) (fun z=>[(0,ax nb),(1,ac id),(2,.pointer (elP pad 8 i 0)),(6,ax b6),(7,.pointer (some ⟨z.2,0,none⟩))]) (fun z=>obj z.2 tCt [ac 5,ac id,ac os[i]!.index,.bool false,ag (some ⟨z.1,0,none⟩) 1 1,ag os[i]!.fad os[i]!.flows.length os[i]!.fcap]::obj z.1 tLeg (bA os[i]!.leg)::obj b6 tMs [ac 0,ac 0,ag none 0 0]::legP os[i]!.leg::isl (encZ .i64) 1 os[i]!.fad os[i]!.flows::owP os[i]!::obj nb tNd [ax lb,ac sh,ac shs,ac cnt,ac hl,.map (some mb),.map (some mp),.map (some mr)]::L) ?_ ?_
 ·refine G.d9 mixed krStd0 ?_;refine GF.evP (i:=0) rfl krStd0 (Ev.move rfl) ae ?_;refine GF.evP (i:=1) rfl krStd0 (Ev.move rfl) ae ?_;refine GF.evP (i:=2) rfl krStd0 (by first|exact Ev.nilCheck rfl|exact Ev.c7 rfl hA) ae ?_;refine GF.evL (i:=3) rfl krStd0 (by first|exact Ev.fieldAddr rfl|exact Ev.d9 rfl ab|exact Ev.f8 rfl) ae ?_;refine GF.evL (i:=4) rfl krStd0 (by first|exact Ev.c8 rfl rfl|exact Ev.d7 rfl aQ|exact Ev.c9 rfl rfl|exact Ev.d8 rfl ab|exact Ev.g9 rfl ab rfl|exact Ev.f7 rfl ab ae rfl) ae ?_;refine GF.evP (i:=5) rfl krStd0 (Ev.move rfl) ae ?_;refine GF.evP (i:=6) rfl krStd0 (by first|exact Ev.nilCheck rfl|exact Ev.c7 rfl hA) ae ?_;refine GF.evL (i:=7) rfl krStd0 (by first|exact Ev.fieldAddr rfl|exact Ev.d9 rfl ab|exact Ev.f8 rfl) ae ?_;refine GF.evL (i:=8) rfl krStd0 (by first|exact Ev.c8 rfl rfl|exact Ev.d7 rfl aQ|exact Ev.c9 rfl rfl|exact Ev.d8 rfl ab|exact Ev.g9 rfl ab rfl|exact Ev.f7 rfl ab ae rfl) ae ?_;refine GF.evP (i:=10) rfl krStd0 (Ev.move rfl) ae ?_;refine GF.evP (i:=11) rfl krStd0 (by first|exact Ev.nilCheck rfl|exact Ev.c7 rfl hA) ae ?_;refine GF.evL (i:=12) rfl krStd0 (by first|exact Ev.fieldAddr rfl|exact Ev.d9 rfl ab|exact Ev.f8 rfl) ae ?_;refine GF.evL (i:=13) rfl krStd0 (by first|exact Ev.c8 rfl rfl|exact Ev.d7 rfl aQ|exact Ev.c9 rfl rfl|exact Ev.d8 rfl ab|exact Ev.g9 rfl ab rfl|exact Ev.f7 rfl ab ae rfl) ae ?_;refine GF.a8 9 15 krStd0 ?_ ?_
  ·refine GE.ef rfl (Ef.lit rfl rfl ae aQ) ae ?_;rintro _ _⟨bl,rfl,rfl⟩;refine⟨(by intro pe hp;simp only[dJ,ay,or_false] at hp;rcases hp with rfl|rfl|rfl|rfl|rfl|rfl<;>first|exact Ev.fieldAddr rfl|exact Ev.d9 rfl ab|exact Ev.c8 rfl rfl|exact Ev.d7 rfl aQ|exact Ev.c9 rfl rfl|exact Ev.d8 rfl ab|exact Ev.g9 rfl ab rfl|exact Ev.f7 rfl ab ae rfl),?_⟩;refine GF.plan [.ev 14,.ef 15,.ef 16] krStd0 rfl ?_;refine Sd ?_;intros;repeat first|with_reducible apply GPK.nil|((with_reducible apply GPK.a8);first|refine GPK.drop rfl ?_|refine GPK.keep (by first|exact Ev.c8 rfl rfl|exact Ev.fieldAddr rfl|exact Ev.d9 rfl ab|exact Ev.g9 rfl ab rfl|exact Ev.f7 rfl ab ae rfl) ?_)
   refine Sd ?_;intros;rename_i bc;exact⟨(bl,bc),trivial,aC,by exact ah⟩
  ·refine GE.ef rfl Ef.alloc ae ?_;rintro _ _⟨bc,rfl,rfl⟩;refine⟨(by intro pe hp;simp only[dJ,ay,or_false] at hp;rcases hp with rfl|rfl|rfl|rfl|rfl|rfl<;>first|exact Ev.fieldAddr rfl|exact Ev.d9 rfl ab|exact Ev.c8 rfl rfl|exact Ev.d7 rfl aQ|exact Ev.c9 rfl rfl|exact Ev.d8 rfl ab|exact Ev.g9 rfl ab rfl|exact Ev.f7 rfl ab ae rfl),?_⟩;refine GF.plan [.ef 9,.ev 14,.ef 16] krStd0 rfl ?_;refine Sd ?_;intros;repeat first|with_reducible apply GPK.nil|((with_reducible apply GPK.a8);first|refine GPK.drop rfl ?_|refine GPK.keep (by first|exact Ev.c8 rfl rfl|exact Ev.fieldAddr rfl|exact Ev.d9 rfl ab|exact Ev.g9 rfl ab rfl|exact Ev.f7 rfl ab ae rfl) ?_)
   refine Sd ?_;intros;rename_i bl;exact⟨(bl,bc),trivial,aC,by exact ah⟩
 rintro⟨bl,bc⟩ _;dsimp only;have hc:CtOk (⟨5,id,os[i]!.index,false,[os[i]!.leg.m],os[i]!.flows⟩:CtM):=mO a0 a1;refine G.ent (L':=ctP ⟨5,id,os[i]!.index,false,[os[i]!.leg],some ⟨bl,0,none⟩,1,os[i]!.flows,os[i]!.fad,os[i]!.fcap⟩::obj bc tCt [ac 5,ac id,ac os[i]!.index,.bool false,ag (some ⟨bl,0,none⟩) 1 1,ag os[i]!.fad os[i]!.flows.length os[i]!.fcap]::obj b6 tMs [ac 0,ac 0,ag none 0 0]::owP os[i]!::obj nb tNd [ax lb,ac sh,ac shs,ac cnt,ac hl,.map (some mb),.map (some mp),.map (some mr)]::L) ?_ ?_
 ·refine(Ent.at (A:=obj bl tLeg (bA os[i]!.leg)) (Ent.f7 (enc:=bA) (sz:=5) (xs:=[os[i]!.leg]) (n:=1) (by simp only[aO,cW,aH]) rfl (by intro x hx;rfl) ae)).trans ?_;refine Ent.freezeSl.trans ?_;refine(Ent.at (A:=legP os[i]!.leg) (Ent.d8 (f:=legP) fC)).trans ?_;refine Ent.trans (B:=isl bA 5 (some ⟨bl,0,none⟩) [os[i]!.leg]::andP (allP legP [os[i]!.leg]) (isl (encZ .i64) 1 os[i]!.fad os[i]!.flows)::_) ?_ (Ent.f8 (bO _ _ _ _) (PersM.and (cH fC) (bO _ _ _ _)));refine Ent.trans (B:=allP legP [os[i]!.leg]::isl (encZ .i64) 1 os[i]!.fad os[i]!.flows::isl bA 5 (some ⟨bl,0,none⟩) [os[i]!.leg]::_) ah ?_;exact(Ent.f8 (cH fC) (bO _ _ _ _)).trans Ent.swap
 refine Sd ?_;intros;refine GPW.evP (Ev.c7 rfl hA) ae ?_;refine Sd ?_;intros;refine GPW.ent (L':=obj nb tNd [ax lb,ac sh,ac shs,ac cnt,ac hl,.map (some mb),.map (some mp),.map (some mr)]::ctP ⟨5,id,os[i]!.index,false,[os[i]!.leg],some ⟨bl,0,none⟩,1,os[i]!.flows,os[i]!.fad,os[i]!.fcap⟩::(obj b6 tMs [ac 0,ac 0,ag none 0 0]::owP os[i]!::L)) ah ?_;refine GPW.ca (fB nb lb sh shs cnt hl mb mp mr os[i]!.leg.m.ts ⟨5,id,os[i]!.index,false,[os[i]!.leg],some ⟨bl,0,none⟩,1,os[i]!.flows,os[i]!.fad,os[i]!.fcap⟩ hc) ?_;rintro _ _⟨y,rfl,hy,rfl⟩;simp only[ndC];refine Sd ?_;intros;exact KX.a8 (by exact ResOk.cell rfl aQ (ResOk.nil)) ah ⟨y,rfl,hy,rfl⟩
