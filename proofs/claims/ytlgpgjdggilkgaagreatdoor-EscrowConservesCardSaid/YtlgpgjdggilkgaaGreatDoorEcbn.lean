/- Lemmas. -/
import Derived.Test.YtlgpgjdggilkgaaGreatDoorEcbm
set_option linter.all false
namespace Go.Proofs.YtlgpgjdggilkgaaGreatDoor
section
open Go.V
def okId(shs id:Int):Prop:=(0≤id / 4294967296∧id / 4294967296<shs)∧id % 4294967296<64
def okId.i64{shs id:Int}(h:okId shs id)(hs:shs≤12):I64 id:=by
 obtain⟨⟨h1,h2⟩,h3⟩:=h;unfold I64;omega
def xL{shs:Int}{l:List Int}(hn:l.Nodup)(h:∀id∈l,okId shs id):l.length≤64*shs.toNat:=by
 have h1:=tD (m:=(List.range (64*shs.toNat)).map fun (k:Nat)=>((k / 64:Nat):Int)*4294967296+((k % 64:Nat):Int)) hn fun id a0=>by
  obtain⟨⟨q1,q2⟩,q3⟩:=h id a0;have q4:0≤id % 4294967296:=ed _ ae;refine List.mem_map.2 ⟨(id / 4294967296).toNat*64+(id % 4294967296).toNat,List.mem_range.2 ab,?_⟩;have e1:((id / 4294967296).toNat*64+(id % 4294967296).toNat) / 64=(id / 4294967296).toNat:=ab;have e2:((id / 4294967296).toNat*64+(id % 4294967296).toNat) % 64=(id % 4294967296).toNat:=ab;rw[e1,e2];omega
 rw[an,List.length_range] at h1;exact h1
def tsIn(shs:Int)(l:LegM):Prop:=0≤l.ts∧l.ts<shs
structure MsX (shs:Int) (y:MsM):Prop where
 kd:1≤y.ct.kind
 id:okId shs y.ct.id
 ts:∀l∈y.ct.legs,tsIn shs l
 am:amT y.ct.legs≤12
 frm:0≤y.frm∧y.frm<shs
 to:0≤y.to∧y.to<shs
structure ExW (shs id:Int) (x:ExM):Prop where
 ok:ExOk x
 id:okId shs id
 ts:∀l∈x.legs,tsIn shs l
 am:amT x.legs≤12
 gv:∀g∈x.givers,0≤g∧g<shs
structure PtW (shs id:Int) (p:PtM):Prop where
 id:okId shs id
 ts:∀o∈p.legs,tsIn shs o.leg∧o.leg.am.length≤12
structure NdW (sh shs:Int) (N:NdM):Prop where
 cnt:0≤N.cnt
 nb:(N.begun.map (·.1)).Nodup
 np:(N.parts.map (·.1)).Nodup
 ex:∀p∈N.begun,ExW shs p.1 p.2
 pt:∀p∈N.parts,PtW shs p.1 p.2
 fr:∀p∈N.begun,p.1<sh*4294967296+N.cnt
structure HX (sh shs:Int) (N:NdM) (r:HRes):Prop where
 nd:NdW sh shs r.2.1
 ms:∀y∈r.1,MsX shs y
 cnt:r.2.1.cnt=N.cnt
def HX.same{sh shs:Int}{N:NdM}{S:LedM}(h:NdW sh shs N):HX sh shs N ([],N,S):=⟨h,fun y hy=>absurd hy ay,rfl⟩
def NdW.setB{sh shs id:Int}{N:NdM}(h:NdW sh shs N){x y:ExM}(hg:glk N.begun id=some x)(h1:y.legs=x.legs)(h2:y.givers=x.givers)(h3:y.until_=x.until_):NdW sh shs { N with begun:=gins N.begun id y }:=by
 have hx:=h.ex _ (cu hg);refine⟨h.cnt,jN h.nb,h.np,fun p hp=>?_,h.pt,fun p hp=>?_⟩
 ·rcases jM hp with rfl|hp
  ·refine⟨⟨?_,?_,?_,?_,?_⟩,hx.id,?_,?_,?_⟩
   ·rw[h1];exact hx.ok.legs
   ·rw[h1];exact hx.ok.lg
   ·rw[h2];exact hx.ok.gl
   ·rw[h2];exact hx.ok.gv
   ·rw[h3];exact hx.ok.un
   ·rw[h1];exact hx.ts
   ·rw[h1];exact hx.am
   ·rw[h2];exact hx.gv
  ·exact h.ex p hp
 ·rcases jM hp with rfl|hp
  ·have q:=h.fr _ (cu hg);exact q
  ·exact h.fr p hp
def NdW.setP{sh shs id:Int}{N:NdM}(h:NdW sh shs N){p:PtM}(hp:PtW shs id p)(k:Int):NdW sh shs { N with hl:=k,parts:=gins N.parts id p } :=
 ⟨h.cnt,h.nb,jN h.np,h.ex,fun q hq=>by
  rcases jM hq with rfl|hq
  ·exact hp
  ·exact h.pt q hq,h.fr⟩
def msX0{sh shs to kind id index:Int}{yes:Bool}(h0:1≤kind)(h1:okId shs id)(h2:0≤sh∧sh<shs)(h3:0≤to∧to<shs):MsX shs ⟨sh,to,ct0 kind id index yes⟩ :=
 ⟨h0,h1,fun l h=>absurd h ay,aw _,h2,h3⟩
def oz{sh shs:Int}{gs W:List Int}{ct:CtM}(h0:1≤ct.kind)(h1:okId shs ct.id)(h2:0≤sh∧sh<shs)(h3:∀g∈gs,0≤g∧g<shs)(h4:∀l∈ct.legs,tsIn shs l)(h5:amT ct.legs≤12):∀y∈dl sh gs W ct,MsX shs y:=fun y hy=>by
 unfold dl at hy;obtain⟨g,hg,rfl⟩:=List.mem_map.1 hy;exact⟨h0,h1,h4,h5,h2,h3 g (List.mem_filter.1 hg).1⟩
def uT{sh id pst hold tick:Int}{o:OwM}{S:LedM}:(ee sh id pst hold tick o S).2.1.leg=o.leg∧∀y∈(ee sh id pst hold tick o S).1,y.frm=sh∧y.to=o.leg.ts∧y.ct.id=id∧y.ct.legs=[o.leg]∧y.ct.kind=5:=by
 by_cases h0:o.state=0
 ·by_cases hB:pst=1∧o.leg.ts≠sh
  ·rw[kB h0 hB];split
   ·refine⟨rfl,fun y hy=>?_⟩;obtain rfl:=List.mem_singleton.1 hy;exact⟨rfl,rfl,rfl,rfl,rfl⟩
   ·exact⟨rfl,fun y hy=>by cases hy⟩
  ·obtain⟨to,ht⟩:∃to,to=if pst=2 then o.leg.fr else o.leg.to:=⟨_,rfl⟩;rw[jc h0 hB ht];split
   ·exact⟨rfl,fun y hy=>by cases hy⟩
   ·exact⟨rfl,fun y hy=>by cases hy⟩
 ·rw[jP h0];exact⟨rfl,fun y hy=>by cases hy⟩
def legX{sh shs id:Int}{o:OwM}{y:MsM}(hi:okId shs id)(hs:0≤sh∧sh<shs)(ho:tsIn shs o.leg∧o.leg.am.length≤12)(h:y.frm=sh∧y.to=o.leg.ts∧y.ct.id=id∧y.ct.legs=[o.leg]∧y.ct.kind=5):MsX shs y:=by
 obtain⟨h1,h2,h3,h4,h5⟩:=h;refine⟨by rw[h5];decide,by rw[h3];exact hi,fun l hl=>?_,?_,by rw[h1];exact hs,by rw[h2];exact ho.1⟩
 ·rw[h4] at hl;rw[List.mem_singleton.1 hl];exact ho.1
 ·rw[h4];show o.leg.am.length+0≤12;exact ho.2
def Ba{sh shs id pst hold tick:Int}(hi:okId shs id)(hs:0≤sh∧sh<shs):∀{os:List OwM} {S:LedM},(∀o∈os,tsIn shs o.leg∧o.leg.am.length≤12)→(∀o∈(cN sh id pst hold tick os S).2.1,tsIn shs o.leg∧o.leg.am.length≤12)∧∀y∈(cN sh id pst hold tick os S).1,MsX shs y
 | [],S,_=>⟨fun o h=>absurd h ay,fun y h=>absurd h ay⟩
 | o::os,S,ho=>by
  obtain⟨h1,h2⟩:=uT (sh:=sh) (id:=id) (pst:=pst) (hold:=hold) (tick:=tick) (o:=o) (S:=S);obtain⟨h3,h4⟩:=Ba (pst:=pst) (hold:=hold) (tick:=tick) hi hs (os:=os) (S:=(ee sh id pst hold tick o S).2.2) fun x hx=>ho x (au _ hx);simp only[cN];refine⟨fun x hx=>?_,fun y hy=>?_⟩
  ·rcases List.mem_cons.1 hx with rfl|hx
   ·rw[h1];exact ho o av
   ·exact h3 x hx
  ·rcases List.mem_append.1 hy with hy|hy
   ·exact legX hi hs (ho o av) (h2 y hy)
   ·exact h4 y hy
def EX{sh shs:Int}:∀{k:Int} {ls:List LegM},(∀l∈ls,tsIn shs l∧l.am.length≤12)→∀o∈ownM sh k ls,tsIn shs o.leg∧o.leg.am.length≤12
 | _,[],_,o,h=>absurd h ay
 | k,l::ls,hl,o,h=>by
  have ih:=EX (sh:=sh) (k:=k+1) (ls:=ls) (fun x hx=>hl x (au _ hx)) o;have e1:ownM sh k (l::ls)=if l.sh=sh then⟨l,k,0,[]⟩::ownM sh (k+1) ls else ownM sh (k+1) ls:=rfl;rw[e1] at h;split at h
  ·rcases List.mem_cons.1 h with rfl|h
   ·exact hl l av
   ·exact ih h
  ·exact ih h
def BH{sh shs from_ tick:Int}{m:CtM}{N:NdM}{S:LedM}(hs:0≤sh∧sh<shs)(hN:NdW sh shs N)(hi:okId shs m.id)(ht:∀l∈m.legs,tsIn shs l)(ha:amT m.legs≤12)(hf:0≤from_∧from_<shs):HX sh shs N (bZ sh from_ m tick N S):=by
 have a0:0≤ey m.id∧ey m.id<shs:=hi.1;unfold bZ;split
 ·unfold iq;cases hl:glk N.parts m.id with
  | some p=>exact⟨hN,fun y hy=>by obtain rfl:=List.mem_singleton.1 hy;exact msX0 ae hi hs a0,rfl⟩
  | none =>
   dsimp only;split
   ·refine⟨hN.setP ⟨hi,EX fun l hl=>⟨ht l hl,aP (uP hl) ha⟩⟩ _,fun y hy=>by obtain rfl:=List.mem_singleton.1 hy;exact msX0 ae hi hs a0,rfl⟩
   ·exact⟨hN.setP ⟨hi,fun o ho=>absurd ho ay⟩ _,fun y hy=>by obtain rfl:=List.mem_singleton.1 hy;exact msX0 ae hi hs a0,rfl⟩
 split
 ·unfold gy;cases hl:glk N.begun m.id with
  | none=>exact HX.same hN
  | some x =>
   have hx:=hN.ex _ (cu hl);have tl:∀b:Bool,∀y∈dl sh x.givers [] (ct0 3 m.id 0 b),MsX shs y:=fun b=>oz (show(1:Int)≤3 by decide) hi hs hx.gv (fun l h=>absurd h ay) (aw _);dsimp only;split
   ·exact HX.same hN
   ·split
    ·exact⟨hN.setB hl rfl rfl rfl,tl _,rfl⟩
    ·split
     ·exact⟨hN.setB hl rfl rfl rfl,fun y hy=>absurd hy ay,rfl⟩
     ·exact⟨hN.setB hl rfl rfl rfl,tl _,rfl⟩
 split
 ·unfold fF;cases hl:glk N.parts m.id with
  | none=>exact⟨hN.setP ⟨hi,fun o ho=>absurd ho ay⟩ _,fun y hy=>by obtain rfl:=List.mem_singleton.1 hy;exact msX0 ae hi hs a0,rfl⟩
  | some p =>
   have hp:=hN.pt _ (cu hl);dsimp only;split
   ·obtain⟨w1,w2⟩:=Ba (pst:=if m.yes=true then 1 else 2) (hold:=p.hold) (tick:=tick) hi hs (os:=p.legs) (S:=S) hp.ts;refine⟨hN.setP ⟨hi,w1⟩ _,fun y hy=>?_,rfl⟩;rcases List.mem_append.1 hy with hy|hy
    ·exact w2 y hy
    ·obtain rfl:=List.mem_singleton.1 hy;exact msX0 ae hi hs a0
   ·exact⟨hN,fun y hy=>by obtain rfl:=List.mem_singleton.1 hy;exact msX0 ae hi hs a0,rfl⟩
 split
 ·unfold jD NdM.setB;cases hl:glk N.begun m.id with
  | none=>exact HX.same hN
  | some x=>exact⟨hN.setB hl rfl rfl rfl,fun y hy=>absurd hy ay,rfl⟩
 split
 ·unfold gC;split
  ·exact⟨hN,fun y hy=>by obtain rfl:=List.mem_singleton.1 hy;exact msX0 ae hi hs hf,rfl⟩
  ·split
   ·split
    ·exact⟨⟨hN.cnt,hN.nb,hN.np,hN.ex,hN.pt,hN.fr⟩,fun y hy=>by obtain rfl:=List.mem_singleton.1 hy;exact msX0 ae hi hs hf,rfl⟩
    ·exact HX.same hN
   ·exact HX.same hN
 split
 ·unfold gotM NdM.setP;cases hl:glk N.parts m.id with
  | none=>exact HX.same hN
  | some p =>
   have hp:=hN.pt _ (cu hl);refine⟨hN.setP ⟨hi,fun o ho=>?_⟩ _,fun y hy=>absurd hy ay,rfl⟩;obtain⟨q,hq,rfl⟩:=List.mem_map.1 ho;have a1:=hp.ts q hq;unfold jF;split
   ·exact a1
   ·exact a1
 exact HX.same hN
def yv{sh shs:Int}{f:MsM→NdM→LedM→HRes}(hf:∀m N S,MsX shs m→NdW sh shs N→HX sh shs N (f m N S)):∀(l:List MsM) (N:NdM) (S:LedM),(∀m∈l,MsX shs m)→NdW sh shs N→HX sh shs N (cn f l N S)
 | [],N,S,_,hN=>HX.same hN
 | m::l,N,S,hP,hN=>by
  have h1:=hf m N S (hP m av) hN;have h2:=yv hf l _ (f m N S).2.2 (fun x hx=>hP x (au _ hx)) h1.nd;simp only[cn];refine⟨h2.nd,fun y hy=>?_,h2.cnt.trans h1.cnt⟩;rcases List.mem_append.1 hy with hy|hy
  ·exact h1.ms y hy
  ·exact h2.ms y hy
def Bs{sh shs tick:Int}(hs:0≤sh∧sh<shs):∀(d:Nat) (m:MsM) (N:NdM) (S:LedM),MsX shs m→NdW sh shs N→HX sh shs N (bX sh tick d m N S)
 | 0,m,N,S,_,hN=>HX.same hN
 | d+1,m,N,S,hm,hN=>by
  unfold bX;by_cases ht:m.to=sh
  ·rw[if_neg (fun q=>q ht)];have h1:=BH (tick:=tick) (S:=S) hs hN hm.id hm.ts hm.am hm.frm;have h2:=yv (f:=bX sh tick d) (fun y N' S' hy a0=>Bs (tick:=tick) hs d y N' S' hy a0) _ _ (bZ sh m.frm m.ct tick N S).2.2 h1.ms h1.nd;exact⟨h2.nd,h2.ms,h2.cnt.trans h1.cnt⟩
  ·rw[if_pos ht];refine⟨hN,fun y hy=>?_,rfl⟩;obtain rfl:=List.mem_singleton.1 hy;exact hm
def FS{sh shs tick:Int}{l:List MsM}{N:NdM}{S:LedM}(hs:0≤sh∧sh<shs)(hl:∀m∈l,MsX shs m)(hN:NdW sh shs N):HX sh shs N (delM sh tick l N S):=yv (fun m N' S' hm a0=>Bs hs 7 m N' S' hm a0) l N S hl hN
def Is{sh shs tick:Int}{x:MsM}{N:NdM}{S:LedM}(hs:0≤sh∧sh<shs)(hx:MsX shs x)(hN:NdW sh shs N):HX sh shs N (eH sh shs x tick N S):=by
 unfold eH;split
 ·have h1:=BH (tick:=tick) (S:=S) hs hN hx.id hx.ts hx.am hx.frm;have h2:=FS (tick:=tick) (S:=(bZ sh x.frm x.ct tick N S).2.2) hs h1.ms h1.nd;exact⟨h2.nd,h2.ms,h2.cnt.trans h1.cnt⟩
 ·exact HX.same hN
def svI(sh:Int)(N:NdM)(id:Int):Prop:=∀x,glk N.begun id=some x→sh∈x.givers→sh∈x.voted∨x.dec=true
def svI.setB{sh id k:Int}{N:NdM}{x y:ExM}(h:svI sh N k)(hg:glk N.begun id=some x)(h2:y.givers=x.givers)(h4:(sh∈x.voted∨x.dec=true)→sh∈y.voted∨y.dec=true):svI sh { N with begun:=gins N.begun id y } k:=fun z hz hm=>by
 have a0:glk (gins N.begun id y) k=some z:=hz;rw[ij] at a0;split at a0
 ·rename_i q;subst q;obtain rfl:y=z:=by simpa using a0
  rw[h2] at hm;exact h4 (h x hg hm)
 ·exact h z a0 hm
def svI.of{sh k:Int}{N N' : NdM}(h:svI sh N k)(e:N'.begun=N.begun):svI sh N' k:=by
 unfold svI;rw[e];exact h
def HC{l:List Int}{a b:Int}(h:b∈l):b∈addS l a:=by
 unfold addS;split
 ·exact h
 ·exact bM _ h
def Gl{l:List Int}{a:Int}:a∈addS l a:=by
 unfold addS;split
 ·rename_i h;exact h
 ·exact bK _ (List.mem_singleton.2 rfl)
def rt(sh tick:Int)(m:CtM)(N:NdM)(S:LedM):∃b N' S',iq sh m tick N S=([⟨sh,ey m.id,ct0 2 m.id 0 b⟩],N',S')∧N'.begun=N.begun:=by
 unfold iq;cases glk N.parts m.id with
 | some p=>exact⟨_,_,_,rfl,rfl⟩
 | none =>
  dsimp only;split
  ·exact⟨_,_,_,rfl,rfl⟩
  ·exact⟨_,_,_,rfl,rfl⟩
def yj{sh from_ tick k:Int}{m:CtM}{N:NdM}{S:LedM}(h:svI sh N k):svI sh (bZ sh from_ m tick N S).2.1 k:=by
 unfold bZ;split
 ·obtain⟨b,N',S',e,q⟩:=rt sh tick m N S;rw[e];exact h.of q
 split
 ·unfold gy;cases hl:glk N.begun m.id with
  | none=>exact h
  | some x =>
   dsimp only;split
   ·exact h
   ·split
    ·exact h.setB hl rfl fun _=>.inr rfl
    ·split
     ·exact h.setB hl rfl fun q=>q.imp HC id
     ·exact h.setB hl rfl fun _=>.inr rfl
 split
 ·unfold fF;cases hl:glk N.parts m.id with
  | none=>exact h.of rfl
  | some p =>
   dsimp only;split
   ·exact h.of rfl
   ·exact h
 split
 ·unfold jD NdM.setB;cases hl:glk N.begun m.id with
  | none=>exact h
  | some x=>exact h.setB hl rfl fun q=>q
 split
 ·unfold gC;split
  ·exact h
  ·split
   ·split
    ·exact h.of rfl
    ·exact h
   ·exact h
 split
 ·unfold gotM NdM.setP;cases hl:glk N.parts m.id with
  | none=>exact h
  | some p=>exact h.of rfl
 exact h
def oo{α:Type}{sh k:Int}{f:α→NdM→LedM→HRes}(hf:∀m N S,svI sh N k→svI sh (f m N S).2.1 k):∀(l:List α) (N:NdM) (S:LedM),svI sh N k→svI sh (cn f l N S).2.1 k
 | [],N,S,h=>h
 | m::l,N,S,h=>oo hf l (f m N S).2.1 (f m N S).2.2 (hf m N S h)
def oR{sh tick k:Int}:∀(d:Nat) (m:MsM) (N:NdM) (S:LedM),svI sh N k→svI sh (bX sh tick d m N S).2.1 k
 | 0,m,N,S,h=>h
 | d+1,m,N,S,h=>by
  unfold bX;split
  ·exact h
  ·exact oo (fun y N' S' h'=>oR d y N' S' h') _ _ _ (yj h)
def uJ{sh tick k:Int}{l:List MsM}{N:NdM}{S:LedM}(h:svI sh N k):svI sh (delM sh tick l N S).2.1 k:=oo (fun y N' S' h'=>oR 7 y N' S' h') l N S h
def GH{sh shs tick k:Int}{x:MsM}{N:NdM}{S:LedM}(h:svI sh N k):svI sh (eH sh shs x tick N S).2.1 k:=by
 unfold eH;split
 ·exact uJ (yj h)
 ·exact h
def Cg{sh tick id:Int}{b:Bool}{N:NdM}{S:LedM}{x:ExM}(hx:glk N.begun id=some x):svI sh (gy sh sh (ct0 2 id 0 b) tick N S).2.1 id:=by
 have hg:∀y:ExM,(sh∈y.voted∨y.dec=true)→svI sh { N with begun:=gins N.begun id y } id:=fun y hy z hz _=>by
  have a0:glk (gins N.begun id y) id=some z:=hz;rw[ij,if_pos rfl] at a0;obtain rfl:y=z:=by simpa using a0
  exact hy
 unfold gy;rw[show(ct0 2 id 0 b).id=id from rfl,hx];dsimp only;split
 ·rename_i hd;intro z hz _;rw[hx] at hz;obtain rfl:x=z:=by simpa using hz
  exact .inr hd
 ·split
  ·exact hg _ (.inr rfl)
  ·split
   ·exact hg _ (.inl Gl)
   ·exact hg _ (.inr rfl)
def EU{sh tick id:Int}{ls:List LegM}{N:NdM}{S:LedM}{x:ExM}(a0:ey id=sh)(hx:glk N.begun id=some x):svI sh (bX sh tick 7 ⟨sh,sh,⟨1,id,0,false,ls,[]⟩⟩ N S).2.1 id:=by
 obtain⟨b,N',S',e,q⟩:=rt sh tick ⟨1,id,0,false,ls,[]⟩ N S
 have h1:bZ sh sh ⟨1,id,0,false,ls,[]⟩ tick N S=([⟨sh,sh,ct0 2 id 0 b⟩],N',S'):=by
  unfold bZ;rw[if_pos rfl,e,show ey (⟨1,id,0,false,ls,[]⟩:CtM).id=sh from a0]
 have h2:bX sh tick 7 ⟨sh,sh,⟨1,id,0,false,ls,[]⟩⟩ N S=cn (bX sh tick 6) (bZ sh sh ⟨1,id,0,false,ls,[]⟩ tick N S).1 (bZ sh sh ⟨1,id,0,false,ls,[]⟩ tick N S).2.1 (bZ sh sh ⟨1,id,0,false,ls,[]⟩ tick N S).2.2:=by
  rw[bX];exact if_neg fun q=>q rfl
 have h3:bX sh tick 6 ⟨sh,sh,ct0 2 id 0 b⟩ N' S' = cn (bX sh tick 5) (bZ sh sh (ct0 2 id 0 b) tick N' S').1 (bZ sh sh (ct0 2 id 0 b) tick N' S').2.1 (bZ sh sh (ct0 2 id 0 b) tick N' S').2.2:=by
  rw[bX];exact if_neg fun q=>q rfl
 have h4:bZ sh sh (ct0 2 id 0 b) tick N' S' = gy sh sh (ct0 2 id 0 b) tick N' S':=by
  unfold bZ;rw[if_neg (show ¬(ct0 2 id 0 b).kind=1 from fun q=>absurd (show(2:Int)=1 from q) ae),if_pos (show(ct0 2 id 0 b).kind=2 from rfl)]
 rw[h2,h1];show svI sh (bX sh tick 6 ⟨sh,sh,ct0 2 id 0 b⟩ N' S').2.1 id;rw[h3];refine oo (fun y N' S' h'=>oR 5 y N' S' h') _ _ _ ?_;rw[h4];exact Cg (by rw[q];exact hx)
def kQ{sh tick:Int}{m:MsM}{N:NdM}{S:LedM}(h:m.to≠sh)(d:Nat):bX sh tick (d+1) m N S=([m],N,S):=by
 rw[bX];exact if_pos h
def vA{sh tick id:Int}{ls:List LegM}{x:ExM}(a0:ey id=sh):∀(gs:List Int) (N:NdM) (S:LedM),glk N.begun id=some x→sh∈gs→svI sh (cn (bX sh tick 7) (gs.map fun g=>(⟨sh,g,⟨1,id,0,false,ls,[]⟩⟩:MsM)) N S).2.1 id
 | [],N,S,_,h=>absurd h ay
 | g::gs,N,S,hx,h=>by
  rw[aF];by_cases e:g=sh
  ·subst e;simp only[cn];exact oo (fun y N' S' h'=>oR 7 y N' S' h') _ _ _ (EU a0 hx)
  ·have hm:=kQ (tick:=tick) (m:=⟨sh,g,⟨1,id,0,false,ls,[]⟩⟩) (N:=N) (S:=S) e 6;have:=vA (tick:=tick) (ls:=ls) (x:=x) a0 gs N S hx ((List.mem_cons.1 h).resolve_left fun q=>e q.symm)
   simp only[cn];rw[hm];exact this
structure NdA (cat:CatM) (sh shs:Int) (N:NdM) (S:LedM):Prop where
 hin:HIn cat sh N S
 ndw:NdW sh shs N
 sv:∀k,svI sh N k
structure LnkM (shs:Int) (y:MsM):Prop where
 ct:CtOk y.ct
 x:MsX shs y
structure StpA (cat:CatM) (sh shs:Int) (N:NdM) (b n:Nat) (r:HRes):Prop where
 nd:NdA cat sh shs r.2.1 r.2.2
 bd:kOf r.2.2+pot r.2.1≤b
 ms:∀y∈r.1,LnkM shs y
 len:r.1.length≤n
 cnt:r.2.1.cnt=N.cnt
def StpA.same{cat:CatM}{sh shs:Int}{N:NdM}{S:LedM}{b n:Nat}(h:NdA cat sh shs N S)(hb:kOf S+pot N≤b):StpA cat sh shs N b n ([],N,S):=⟨h,hb,fun y hy=>absurd hy ay,aw _,rfl⟩
def FT{cat:CatM}{sh shs tick:Int}{l:List MsM}{N:NdM}{S:LedM}{b:Nat}(hs:0≤sh∧sh<shs)(a0:b≤2000)(hP:∀y∈l,POk sh 7 y)(hX:∀y∈l,MsX shs y)(hin:HIn cat sh N S)(hw:NdW sh shs N)(hv:∀k,svI sh (delM sh tick l N S).2.1 k)(hb:kOf S+pot N+fS sh l≤b):StpA cat sh shs N b (l.length*3300) (delM sh tick l N S):=by
 obtain⟨h1,h2,h3,h4⟩:=mV (tick:=tick) (d:=7) l N S b a0 hP hin hb;have h5:=FS (tick:=tick) (S:=S) hs hX hw;have h6:=kK (f:=fun m:MsM=>cMx m.ct.kind) (C:=3300) (l:=l) fun m _=>qG _;exact⟨⟨h1,h5.nd,hv⟩,h2,fun y hy=>⟨(h3 y hy).ct,h5.ms y hy⟩,aP h4 h6,h5.cnt⟩
def oe{cat:CatM}{sh shs tick:Int}{x:MsM}{N:NdM}{S:LedM}{b:Nat}(hs:0≤sh∧sh<shs)(h:NdA cat sh shs N S)(hx:LnkM shs x)(hb:kOf S+pot N≤b)(a0:b+24≤2000):StpA cat sh shs N (b+24) 3300 (eH sh shs x tick N S):=by
 have ha:=hx.x.am;have a1:=hx.x.kd;have hX:=Is (tick:=tick) (S:=S) hs hx.x h.ndw;have hV:=fun k=>GH (shs:=shs) (tick:=tick) (x:=x) (S:=S) (h.sv k);unfold eH at hX hV ⊢;split
 ·rename_i hc;rw[if_pos hc] at hX hV;obtain⟨⟨h1,h2,h3⟩,h4,_⟩:=xc (frm:=x.frm) (tick:=tick) h.hin hx.ct ab ab;have hz:=jZ (sh:=sh) (l:=(bZ sh x.frm x.ct tick N S).1) fun y hy=>(h1 y hy).2;obtain⟨p1,p2,p3,_⟩:=mV (tick:=tick) (d:=7) _ _ _ (b+24) a0 (fun y hy=>(h1 y hy).1) h2 ab;exact⟨⟨p1,hX.nd,hV⟩,p2,fun y hy=>⟨(p3 y hy).ct,hX.ms y hy⟩,h4,hX.cnt⟩
 ·exact StpA.same h ab
def xW{shs n:Int}{ls:List LegM}(h:jT shs n ls):∀l∈ls,tsIn shs l:=fun l hl=>(h.2 l hl).ts
def Hw{sh c:Int}(h:0≤c∧c<64):ey (sh*4294967296+c)=sh:=by
 unfold ey;omega
def pu{cat:CatM}{sh shs tick until_:Int}{ls:List LegM}{N:NdM}{S:LedM}{b:Nat}(hs:0≤sh∧sh<shs)(a0:shs≤12)(h:NdA cat sh shs N S)(hc:N.cnt<64)(hi:S.cat.items.length≤64)(ha:amT ls≤12)(ht:0≤tick)(hb:kOf S+pot N≤b)(b0:b+24≤2000) :
  (eZ sh shs ls tick until_ N S).2=([],N,S)∧(eZ sh shs ls tick until_ N S).1.2≠0 ∨
  ((eZ sh shs ls tick until_ N S).1=(sh*4294967296+N.cnt,0)∧StpA cat sh shs { N with cnt:=N.cnt+1 } (b+24) 400000 (eZ sh shs ls tick until_ N S).2):=by
 have a7:0≤(S.cat.items.length:Int)∧(S.cat.items.length:Int)≤64:=ab;have b1:=h.ndw.cnt;unfold eZ;split
 ·exact .inl ⟨rfl,show(1:Int)≠0 by decide⟩
 ·rename_i h1;have b3 : ¬until_>1099511627776:=fun q=>h1 (.inl q);have h2:jT shs S.cat.items.length ls:=Classical.byContradiction fun q=>h1 (.inr q);split
  ·exact .inl ⟨rfl,show(14:Int)≠0 by decide⟩
  ·rename_i h3;refine .inr ⟨rfl,?_⟩;dsimp only;generalize hid:sh*4294967296+N.cnt=id;have a5:ey id=sh:=by rw[←hid];exact Hw ⟨b1,hc⟩
   have a4:okId shs id:=⟨by have e:id / 4294967296=sh:=a5;rw[e];exact hs,ab⟩;have a3:=a4.i64 a0;have b4:=lL ls shs.toNat
   have a2:∀g∈dR ls shs.toNat,0≤g∧g<shs:=fun g hg=>by
    have:=(giversT_mem.1 hg).1
    omega
   have b5:glk N.begun id=none:=by
    cases hg:glk N.begun id with
    | none=>rfl
    | some x=>have:=h.ndw.fr _ (cu hg);dsimp only at this;omega
   have hP:=vG (sh:=sh) h2 a0 a7 a3 (gs:=dR ls shs.toNat);have hin:=yX (id:=id) (u:=until_) (ls:=ls) h.hin a0;have hX:∀y∈dl sh (dR ls shs.toNat) [] ⟨1,id,0,false,ls,[]⟩,MsX shs y:=oz (bq 1) a4 hs a2 (xW h2) ha
   have hw:NdW sh shs { N with cnt:=N.cnt+1,begun:=gins N.begun id ⟨ls,dR ls shs.toNat,until_,[],[],false,false⟩ }:=by
    refine⟨by dsimp only;omega,jN h.ndw.nb,h.ndw.np,fun p hp=>?_,h.ndw.pt,fun p hp=>?_⟩
    ·rcases jM hp with rfl|hp
     ·exact⟨⟨h2.1.2,fun l hl=>(h2.2 l hl).ok a0 a7,by dsimp only;omega,fun g hg=>by have:=a2 g hg;unfold I64;omega,by unfold I64;dsimp only;omega⟩,a4,xW h2,ha,a2⟩
     ·exact h.ndw.ex p hp
    ·dsimp only;rcases jM hp with rfl|hp
     ·dsimp only;omega
     ·have:=h.ndw.fr p hp;omega
   have a6:fS sh (dl sh (dR ls shs.toNat) [] ⟨1,id,0,false,ls,[]⟩)≤24:=by
    have q:=qE (sh:=sh) (ct:=⟨1,id,0,false,ls,[]⟩) (pE ls shs.toNat);rw[mj];dsimp only at q;omega
   have b2:glk (gins N.begun id (⟨ls,dR ls shs.toNat,until_,[],[],false,false⟩:ExM)) id=some ⟨ls,dR ls shs.toNat,until_,[],[],false,false⟩:=by rw[ij,if_pos rfl]
   have hv:∀k,svI sh (delM sh tick (dl sh (dR ls shs.toNat) [] ⟨1,id,0,false,ls,[]⟩) { N with cnt:=N.cnt+1,begun:=gins N.begun id ⟨ls,dR ls shs.toNat,until_,[],[],false,false⟩ } S).2.1 k:=fun k=>by
    by_cases hm:k=id∧sh∈dR ls shs.toNat
    ·obtain⟨rfl,hm⟩:=hm;rw[mj];exact vA a5 _ _ _ b2 hm
    ·refine uJ fun z hz a9=>?_;have a1:glk (gins N.begun id (⟨ls,dR ls shs.toNat,until_,[],[],false,false⟩:ExM)) k=some z:=hz;rw[ij] at a1;split at a1
     ·rename_i q;obtain rfl:=(Option.some.inj a1);exact absurd ⟨q,a9⟩ hm
     ·exact h.sv k z a1 a9
   have hl:(dl sh (dR ls shs.toNat) [] ⟨1,id,0,false,ls,[]⟩).length≤12:=aP (jQ _ _ _ _) ab;have hr:=FT (b:=b+24) hs b0 hP hX hin hw hv (by unfold pot at hb ⊢;dsimp only;omega);exact⟨hr.nd,hr.bd,hr.ms,aP hr.len ab,hr.cnt⟩
def runL(f:OwM→LedM→List MsM×OwM×LedM):List OwM→LedM→List MsM×List OwM×LedM
 | [],S=>([],[],S)
 | o::os,S=>((f o S).1++(runL f os (f o S).2.2).1,(f o S).2.1::(runL f os (f o S).2.2).2.1,(runL f os (f o S).2.2).2.2)
def ve(f:OwM→LedM→List MsM×OwM×LedM)(o:OwM):∀(os:List OwM) (S:LedM),runL f (os++[o]) S=((runL f os S).1++(f o (runL f os S).2.2).1,(runL f os S).2.1++[(f o (runL f os S).2.2).2.1],(f o (runL f os S).2.2).2.2)
 | [],S=>by simp only[ak,runL,aH]
 | p::os,S=>by
  rw[al];simp only[runL];rw[ve f o os];simp only[aB,al]
def pT(f:OwM→LedM→List MsM×OwM×LedM)(os:List OwM)(S:LedM){i:Nat}(h:i<os.length):runL f (os.take (i+1)) S=((runL f (os.take i) S).1++(f os[i]! (runL f (os.take i) S).2.2).1,(runL f (os.take i) S).2.1++[(f os[i]! (runL f (os.take i) S).2.2).2.1],(f os[i]! (runL f (os.take i) S).2.2).2.2):=by
 rw[az h,ve,getElem!_of h]
def oF(f:OwM→LedM→List MsM×OwM×LedM):∀(os:List OwM) (S:LedM),(runL f os S).2.1.length=os.length
 | [],S=>rfl
 | o::os,S=>by simp only[runL,aM,oF f os]
structure RuIn (f:OwM→LedM→List MsM×OwM×LedM) (os:List OwM) (S:LedM) (i:Nat) (ys:List OwV) (ms:List MsM):Prop where
 le:i≤os.length
 len:ys.length=os.length
 ow:ys.map OwV.m=(runL f (os.take i) S).2.1++os.drop i
 ms:ms=(runL f (os.take i) S).1
def RuIn.at{f:OwM→LedM→List MsM×OwM×LedM}{os:List OwM}{S:LedM}{i:Nat}{ys:List OwV}{ms:List MsM}(h:RuIn f os S i ys ms)(hi:i<os.length):ys[i]!.m=os[i]!:=by
 have hl:=oF f (os.take i) S;rw[aK,dp h.le] at hl;have e:(ys.map OwV.m)[i]! = ys[i]!.m:=gw (f:=OwV.m) (by rw[h.len];exact hi);rw[←e,h.ow,getElem!_of (by rw[aj,bY];omega),cM ab,fu,getElem!_of hi];congr 1;omega
def RuIn.next{f:OwM→LedM→List MsM×OwM×LedM}{os:List OwM}{S:LedM}{i:Nat}{ys:List OwV}{ms:List MsM}(h:RuIn f os S i ys ms)(hi:i<os.length){o' : OwV}{a2:List MsM}
  (a0:a2=(f ys[i]!.m (runL f (os.take i) S).2.2).1) (a1:o'.m=(f ys[i]!.m (runL f (os.take i) S).2.2).2.1):RuIn f os S (i+1) (ys.set i o') (ms++a2):=by
 have hl:=oF f (os.take i) S;rw[aK,dp h.le] at hl;rw[h.at hi] at a0 a1;refine⟨hi,by rw[bH];exact h.len,?_,?_⟩
 ·rw[pT f os S hi,List.map_set,h.ow,eN _ _ ab,a1,hl,Nat.sub_self,bV hi,fX,aB];rfl
 ·rw[pT f os S hi,h.ms,a0]
def RuIn.keep{f:OwM→LedM→List MsM×OwM×LedM}{os:List OwM}{S:LedM}{i:Nat}{ys:List OwV}{ms:List MsM}(h:RuIn f os S i ys ms)(hi:i<os.length){a0:List MsM}
  (a1:a0=(f ys[i]!.m (runL f (os.take i) S).2.2).1) (a2:ys[i]!.m=(f ys[i]!.m (runL f (os.take i) S).2.2).2.1):RuIn f os S (i+1) ys (ms++a0):=by
 have e:ys.set i ys[i]! = ys:=by
  have hl:=h.len;rw[getElem!_of ab];exact List.set_getElem_self ab
 have:=h.next hi a1 a2
 rw[e] at this;exact this
def RuIn.zero{f:OwM→LedM→List MsM×OwM×LedM}{ys:List OwV}{S:LedM}:RuIn f (ys.map OwV.m) S 0 ys []:=⟨aw _,by rw[an],rfl,rfl⟩
noncomputable def advW(sh id pst hold tick:Int)(o:OwM)(S:LedM):List MsM×OwM×LedM:=if o.state=1 then([iH sh id o],o,S) else ee sh id pst hold tick o S
noncomputable def advU(sh tick id:Int)(N:NdM)(S:LedM):HRes:=match glk N.begun id with
 | some x=>delM sh tick (ga sh id x tick).1 { N with begun:=gins N.begun id (ga sh id x tick).2 } S
 | none=>([],N,S)
noncomputable def advP(sh tick id:Int)(N:NdM)(S:LedM):HRes:=match glk N.parts id with
 | some p =>
  if p.state=1∨p.state=2 then((runL (advW sh id p.state p.hold tick) p.legs S).1,{ N with parts:=gins N.parts id ⟨p.state,p.hold,(runL (advW sh id p.state p.hold tick) p.legs S).2.1⟩ },(runL (advW sh id p.state p.hold tick) p.legs S).2.2)
  else([],N,S)
 | none=>([],N,S)
noncomputable def adv1(sh tick id:Int)(N:NdM)(S:LedM):HRes:=((advU sh tick id N S).1++(advP sh tick id (advU sh tick id N S).2.1 (advU sh tick id N S).2.2).1,(advP sh tick id (advU sh tick id N S).2.1 (advU sh tick id N S).2.2).2.1,(advP sh tick id (advU sh tick id N S).2.1 (advU sh tick id N S).2.2).2.2)
noncomputable def eu(sh tick:Int)(N:NdM)(S:LedM):HRes:=cn (adv1 sh tick) (gx N) N S
def lgK(shs:Int)(o:OwM):Prop:=OwOk o∧tsIn shs o.leg∧o.leg.am.length≤12
def Je{sh shs id pst hold tick:Int}{o:OwM}{S:LedM}{c:CatM}(hs:0≤sh∧sh<shs)(a0:shs≤12)(hi:okId shs id)(hS:LdI sh c (kOf S) S)(hk:kOf S+fL o≤2000)(ho:lgK shs o) :
  LdI sh c (kOf (advW sh id pst hold tick o S).2.2) (advW sh id pst hold tick o S).2.2∧kOf (advW sh id pst hold tick o S).2.2+fL (advW sh id pst hold tick o S).2.1≤kOf S+fL o∧kOf S≤kOf (advW sh id pst hold tick o S).2.2∧lgK shs (advW sh id pst hold tick o S).2.1∧(∀y∈(advW sh id pst hold tick o S).1,LnkM shs y)∧(advW sh id pst hold tick o S).1.length≤1:=by
 unfold advW;split
 ·refine⟨hS,aq _,aq _,ho,fun y hy=>?_,aq _⟩;obtain rfl:=List.mem_singleton.1 hy;exact⟨mO (hi.i64 a0) ho.1,legX hi hs ho.2 ⟨rfl,rfl,rfl,rfl,rfl⟩⟩
 ·obtain⟨h1,h2⟩:=ue (id:=id) (pst:=pst) (hold:=hold) (tick:=tick) hS hk;obtain⟨h3,h4⟩:=wn (pst:=pst) (hold:=hold) (tick:=tick) hS hk (hi.i64 a0) ho.1;obtain⟨h5,h6⟩:=uT (sh:=sh) (id:=id) (pst:=pst) (hold:=hold) (tick:=tick) (o:=o) (S:=S);exact⟨h1,h2,AZ,⟨h3,by rw[h5];exact ho.2⟩,fun y hy=>⟨(h4 y hy).ct,legX hi hs ho.2 (h6 y hy)⟩,lO⟩
def ul{sh shs id pst hold tick:Int}{c:CatM}(hs:0≤sh∧sh<shs)(a0:shs≤12)(hi:okId shs id):∀{os:List OwM} {S:LedM},LdI sh c (kOf S) S→kOf S+de os≤2000→(∀o∈os,lgK shs o) →
  LdI sh c (kOf (runL (advW sh id pst hold tick) os S).2.2) (runL (advW sh id pst hold tick) os S).2.2∧kOf (runL (advW sh id pst hold tick) os S).2.2+de (runL (advW sh id pst hold tick) os S).2.1≤kOf S+de os∧kOf S≤kOf (runL (advW sh id pst hold tick) os S).2.2∧(∀o∈(runL (advW sh id pst hold tick) os S).2.1,lgK shs o)∧(∀y∈(runL (advW sh id pst hold tick) os S).1,LnkM shs y)∧(runL (advW sh id pst hold tick) os S).1.length≤os.length
 | [],S,hS,_,_=>⟨hS,aq _,aq _,fun o h=>absurd h ay,fun y h=>absurd h ay,aq _⟩
 | o::os,S,hS,hk,ho=>by
  have e2:∀(a:OwM) (l:List OwM),de (a::l)=fL a+de l:=fun a l=>by unfold de;rw[aF,cq]
  rw[e2] at hk;obtain⟨a1,a2,a3,a4,a5,a6⟩:=Je (pst:=pst) (hold:=hold) (tick:=tick) (S:=S) hs a0 hi hS ab (ho o av);obtain⟨b1,b2,b3,b4,b5,b6⟩:=ul (pst:=pst) (hold:=hold) (tick:=tick) hs a0 hi (os:=os) a1 ab fun x hx=>ho x (au _ hx);simp only[runL];refine⟨b1,by rw[e2,e2];omega,ab,fun x hx=>?_,fun y hy=>?_,?_⟩
  ·rcases List.mem_cons.1 hx with rfl|hx
   ·exact a4
   ·exact b4 x hx
  ·rcases List.mem_append.1 hy with hy|hy
   ·exact a5 y hy
   ·exact b5 y hy
  ·rw[aj,aM];omega
def uW{sh:Int}{gs W:List Int}{ct:CtM}{y:MsM}(h:y∈dl sh gs W ct):y.ct=ct∧y.to∈gs∧¬y.to∈W:=by
 unfold dl at h;obtain⟨g,hg,rfl⟩:=List.mem_map.1 h;obtain⟨h1,h2⟩:=List.mem_filter.1 hg;exact⟨rfl,h1,by simpa using h2⟩
def Eu{cat:CatM}{sh shs tick id:Int}{N:NdM}{S:LedM}{x:ExM}(hs:0≤sh∧sh<shs)(a2:shs≤12)(h:NdA cat sh shs N S)(hx:glk N.begun id=some x) :
  ((ga sh id x tick).2.legs=x.legs∧(ga sh id x tick).2.givers=x.givers∧(ga sh id x tick).2.until_=x.until_∧((sh∈x.voted∨x.dec=true)→sh∈(ga sh id x tick).2.voted∨(ga sh id x tick).2.dec=true))∧(∀m∈(ga sh id x tick).1,POk sh 7 m∧MsX shs m∧cost sh m=0)∧(ga sh id x tick).1.length≤100:=by
 have hw:=h.ndw.ex _ (cu hx);have hi:okId shs id:=hw.id;have hI:=hi.i64 a2;have a3:=hw.ok.gl;have h3:I64 3:=by unfold I64;omega
 have h0:I64 0:=by unfold I64;omega
 have a1:∀(W:List Int) (t:Bool),∀m∈dl sh x.givers W (ct0 3 id 0 t),POk sh 7 m∧MsX shs m∧cost sh m=0:=fun W t m hm=>by
  have hX:=oz (show(1:Int)≤3 by decide) hi hs hw.gv (fun l h=>absurd h ay) (aw _) m hm;obtain⟨q1,q2,q3⟩:=uW hm;refine⟨⟨by rw[q1];exact ju h3 hI h0,by decide,fun _=>by rw[q1];show(7:Int)≤3+7;decide⟩,hX,?_⟩;unfold cost;rw[q1];split<;>rfl
 have a0:∀(W:List Int) (ct:CtM),(dl sh x.givers W ct).length≤100:=fun W ct=>aP (jQ _ _ _ _) a3;unfold ga;split
 ·exact⟨⟨rfl,rfl,rfl,fun q=>q⟩,a1 _ _,a0 _ _⟩
 ·rename_i hd;split
  ·exact⟨⟨rfl,rfl,rfl,fun _=>.inr rfl⟩,a1 _ _,a0 _ _⟩
  ·refine⟨⟨rfl,rfl,rfl,fun q=>q⟩,fun m hm=>?_,a0 _ _⟩;have hX:=oz (show(1:Int)≤1 by decide) hi hs hw.gv hw.ts hw.am m hm;obtain⟨q1,q2,q3⟩:=uW hm;refine⟨⟨by rw[q1];exact⟨⟨by unfold I64;dsimp only;omega,hI,h0⟩,hw.ok.legs,hw.ok.lg,aw _,fun _ h=>absurd h ay⟩,by decide,fun _=>by rw[q1];show(7:Int)≤1+7;decide⟩,hX,?_⟩;unfold cost;split
   ·rename_i e;rw[e] at q2 q3;exact absurd (h.sv id x hx q2) fun q=>q.elim q3 hd
   ·rfl
def Gj{cat:CatM}{sh shs tick id:Int}{N:NdM}{S:LedM}{b:Nat}(hs:0≤sh∧sh<shs)(a0:shs≤12)(h:NdA cat sh shs N S)(hb:kOf S+pot N≤b)(a1:b≤2000):StpA cat sh shs N b 330000 (advU sh tick id N S):=by
 unfold advU;cases hx:glk N.begun id with
 | none=>exact StpA.same h hb
 | some x =>
  have a2:=(h.ndw.ex _ (cu hx)).ok.gl;obtain⟨⟨e1,e2,e3,e4⟩,hl,hn⟩:=Eu (tick:=tick) hs a0 h hx;dsimp only;have r:=FT (tick:=tick) (b:=b) hs a1 (fun m hm=>(hl m hm).1) (fun m hm=>(hl m hm).2.1) (h.hin.setB (id:=id) (x:=(ga sh id x tick).2) (by rw[e2];exact a2)) (h.ndw.setB hx e1 e2 e3) (fun k=>uJ ((h.sv k).setB hx e2 e4)) (by rw[jZ fun m hm=>(hl m hm).2.2];exact hb);exact⟨r.nd,r.bd,r.ms,aP r.len (bj _ hn),r.cnt⟩
def JS{cat:CatM}{sh shs tick id:Int}{N:NdM}{S:LedM}{b:Nat}(hs:0≤sh∧sh<shs)(a0:shs≤12)(h:NdA cat sh shs N S)(hb:kOf S+pot N≤b)(b0:b≤2000):StpA cat sh shs N b 100 (advP sh tick id N S):=by
 unfold advP;cases hx:glk N.parts id with
 | none=>exact StpA.same h hb
 | some p =>
  have hw:=h.ndw.pt _ (cu hx);have hp:=h.hin.pts _ (cu hx);have a9:=qU (cu hx);dsimp only at a9 ⊢;split
  ·obtain⟨a1,a2,a3,a4,a5,a6⟩:=ul (pst:=p.state) (hold:=p.hold) (tick:=tick) hs a0 (id:=id) hw.id (os:=p.legs) h.hin.led ab fun o ho=>⟨hp.ow o ho,hw.ts o ho⟩;have h3:=oF (advW sh id p.state p.hold tick) p.legs S;have a7:=hp.legs;dsimp only at a7 a6;have h5:=uo (q:=⟨p.state,p.hold,(runL (advW sh id p.state p.hold tick) p.legs S).2.1⟩) h.hin.nd hx;refine⟨⟨h.hin.setP a1 a3 ⟨by dsimp only;omega,fun o ho=>(a4 o ho).1⟩,h.ndw.setP ⟨hw.id,fun o ho=>(a4 o ho).2⟩ _,fun k=>(h.sv k).of rfl⟩,?_,a5,by dsimp only;omega,rfl⟩;dsimp only at h5 ⊢;omega
  ·exact StpA.same h hb
def JT{cat:CatM}{sh shs tick id:Int}{N:NdM}{S:LedM}{b:Nat}(hs:0≤sh∧sh<shs)(a0:shs≤12)(h:NdA cat sh shs N S)(hb:kOf S+pot N≤b)(a1:b≤2000):StpA cat sh shs N b 330100 (adv1 sh tick id N S):=by
 have h1:=Gj (tick:=tick) (id:=id) hs a0 h hb a1;have h2:=JS (tick:=tick) (id:=id) hs a0 h1.nd h1.bd a1;have l1:=h1.len;have l2:=h2.len;unfold adv1;refine⟨h2.nd,h2.bd,fun y hy=>?_,by rw[aj];omega,h2.cnt.trans h1.cnt⟩;rcases List.mem_append.1 hy with hy|hy
 ·exact h1.ms y hy
 ·exact h2.ms y hy
def sA{cat:CatM}{sh shs tick:Int}{b:Nat}(hs:0≤sh∧sh<shs)(a0:shs≤12)(a1:b≤2000):∀(ids:List Int) (N:NdM) (S:LedM),NdA cat sh shs N S→kOf S+pot N≤b→StpA cat sh shs N b (ids.length*330100) (cn (adv1 sh tick) ids N S)
 | [],N,S,h,hb=>StpA.same h hb
 | id::ids,N,S,h,hb=>by
  have h1:=JT (tick:=tick) (id:=id) hs a0 h hb a1;have h2:=sA (tick:=tick) hs a0 a1 ids _ _ h1.nd h1.bd;have l1:=h1.len;have l2:=h2.len;simp only[cn];refine⟨h2.nd,h2.bd,fun y hy=>?_,by rw[aj,aM,dc];omega,h2.cnt.trans h1.cnt⟩;rcases List.mem_append.1 hy with hy|hy
  ·exact h1.ms y hy
  ·exact h2.ms y hy
def NdA.few{cat:CatM}{sh shs:Int}{N:NdM}{S:LedM}(h:NdA cat sh shs N S)(a1:shs≤12):N.begun.length≤768∧N.parts.length≤768:=by
 have h1:=xL h.ndw.nb fun id a0=>by
  obtain⟨p,hp,rfl⟩:=List.mem_map.1 a0;exact(h.ndw.ex p hp).id
 have h2:=xL h.ndw.np fun id a0=>by
  obtain⟨p,hp,rfl⟩:=List.mem_map.1 a0;exact(h.ndw.pt p hp).id
 rw[an] at h1 h2;omega
def ll{cat:CatM}{sh shs tick:Int}{N:NdM}{S:LedM}{b:Nat}(hs:0≤sh∧sh<shs)(a0:shs≤12)(h:NdA cat sh shs N S)(hb:kOf S+pot N≤b)(a1:b≤2000):StpA cat sh shs N b 600000000 (eu sh tick N S):=by
 have r:=sA (tick:=tick) hs a0 a1 (gx N) N S h hb;have h1:=oX N;have h2:=h.few a0;exact⟨r.nd,r.bd,r.ms,aP r.len (by have:=bj 330100 (ab:(gx N).length≤1536);omega),r.cnt⟩
