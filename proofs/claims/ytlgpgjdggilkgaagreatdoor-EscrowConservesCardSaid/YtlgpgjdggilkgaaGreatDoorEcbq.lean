/- Lemmas. -/
import Derived.Test.YtlgpgjdggilkgaaGreatDoorEcbp
set_option linter.all false
set_option maxHeartbeats 16000000
namespace Go.Proofs.YtlgpgjdggilkgaaGreatDoor
section
open Go.V
structure WdM where
 nds:List (NdM×LedM)
 ms:List MsM
 tick:Int
 ids:List Int
instance:Inhabited LedM:=⟨led0 0 cat22⟩
def WdM.nd(W:WdM)(i:Int):NdM×LedM:=W.nds[i.toNat]!
def WdM.send(W:WdM)(i:Int)(r:HRes):WdM:={ W with nds:=W.nds.set i.toNat (r.2.1,r.2.2),ms:=W.ms++r.1 }
def kj(n tick:Int):StM:=(jh n tick none).m
noncomputable def doM(shs:Int)(o:OpV)(W:WdM):(Int×Int)×WdM :=
 if o.kind=0 then((eZ o.sh shs (o.legs.map (·.m)) W.tick (W.tick+o.wait) (W.nd o.sh).1 (W.nd o.sh).2).1,{ W.send o.sh (eZ o.sh shs (o.legs.map (·.m)) W.tick (W.tick+o.wait) (W.nd o.sh).1 (W.nd o.sh).2).2 with ids:=if(eZ o.sh shs (o.legs.map (·.m)) W.tick (W.tick+o.wait) (W.nd o.sh).1 (W.nd o.sh).2).1.2=0 then W.ids++[(eZ o.sh shs (o.legs.map (·.m)) W.tick (W.tick+o.wait) (W.nd o.sh).1 (W.nd o.sh).2).1.1] else W.ids })
 else if o.kind=4 then((0,0),{ W with tick:=W.tick+o.wait }.send o.sh (eu o.sh (W.tick+o.wait) (W.nd o.sh).1 (W.nd o.sh).2))
 else if o.kind=5 then((0,0),{ W with nds:=W.nds.set o.sh.toNat ((W.nd o.sh).1,ce (W.nd o.sh).2 (kj o.n W.tick)) })
 else if W.ms.length=0 then((0,0),W)
 else((0,0),(fun (m:MsM) (W1:WdM)=>if o.kind≠2∧0≤m.to∧m.to<shs then W1.send m.to (eH m.to shs m W.tick (W.nd m.to).1 (W.nd m.to).2) else W1) W.ms[(o.n % W.ms.length).toNat]! (if o.kind≠3 then { W with ms:=W.ms.take (o.n % W.ms.length).toNat++W.ms.drop ((o.n % W.ms.length).toNat+1) } else W))
structure NdB (sh shs:Int) (c b:Nat) (x:NdM×LedM):Prop where
 a:NdA cat22 sh shs x.1 x.2
 bd:kOf x.2+pot x.1≤b
 cnt:x.1.cnt≤c
def NdB.mono{sh shs:Int}{c c' b b' : Nat}{x:NdM×LedM}(h:NdB sh shs c b x)(h1:c≤c')(h2:b≤b'):NdB sh shs c' b' x:=⟨h.a,aP h.bd h2,by have:=h.cnt;omega⟩
structure WdI (shs:Int) (c b M T:Nat) (W:WdM):Prop where
 rng:1≤shs∧shs≤12
 len:(W.nds.length:Int)=shs
 nd:∀i:Nat,i<W.nds.length→NdB i shs c b W.nds[i]!
 ms:∀m∈W.ms,LnkM shs m
 ml:W.ms.length≤M
 tick:0≤W.tick∧W.tick≤T
 il:W.ids.length≤c
def WdI.at{shs:Int}{c b M T:Nat}{W:WdM}(h:WdI shs c b M T W){i:Int}(hi:0≤i∧i<shs):NdB i shs c b (W.nd i):=by
 have hl:=h.len;have:=h.nd i.toNat ab
 rw[show((i.toNat:Nat):Int)=i by omega] at this;exact this
def Js{W:WdM}{i j:Nat}{x:NdM×LedM}(hj:j<W.nds.length):(W.nds.set i x)[j]! = if i=j then x else W.nds[j]!:=by
 rw[getElem!_of (by rw[bH];exact hj),fG];split
 ·rfl
 ·rw[getElem!_of hj]
def WdI.set{shs:Int}{c b M T:Nat}{W:WdM}(h:WdI shs c b M T W){i:Int}(hi:0≤i∧i<shs){x:NdM×LedM}(hx:NdB i shs c b x):WdI shs c b M T { W with nds:=W.nds.set i.toNat x } :=
 ⟨h.rng,by dsimp only;rw[bH];exact h.len,fun j hj=>by
  dsimp only at hj ⊢;rw[bH] at hj;rw[Js hj];split
  ·rename_i q;rw[←q,show((i.toNat:Nat):Int)=i by omega];exact hx
  ·exact h.nd j hj,h.ms,h.ml,h.tick,h.il⟩
def WdI.mono{shs:Int}{c b M T c' b' M' T' : Nat}{W:WdM}(h:WdI shs c b M T W)(h1:c≤c')(h2:b≤b')(h3:M≤M')(h4:T≤T'):WdI shs c' b' M' T' W :=
 ⟨h.rng,h.len,fun i hi=>(h.nd i hi).mono h1 h2,h.ms,aP h.ml h3,by have:=h.tick;omega,aP h.il h1⟩
def WdI.send{shs:Int}{c b M T m:Nat}{W:WdM}(h:WdI shs c b M T W){i:Int}(hi:0≤i∧i<shs){r:HRes}(hr:NdB i shs c b (r.2.1,r.2.2))(hm:∀y∈r.1,LnkM shs y)(hl:r.1.length≤m):WdI shs c b (M+m) T (W.send i r):=by
 have h1:=h.set hi hr;refine⟨h.rng,h1.len,h1.nd,fun y hy=>?_,?_,h.tick,h.il⟩
 ·rcases List.mem_append.1 hy with hy|hy
  ·exact h.ms y hy
  ·exact hm y hy
 ·have:=h.ml
  show(W.ms++r.1).length≤_;rw[aj];omega
def rX{n:Int}{ls:List LegV}(h:∀x∈ls,RLegB n x.m)(hl:ls.length≤4):amT (ls.map (·.m))≤12:=by
 unfold amT;rw[cX];have:=kK (f:=(fun l:LegM=>l.am.length) ∘ fun x:LegV=>x.m) (C:=3) (l:=ls) fun x hx=>(h x hx).len.2
 omega
def NdB.items{sh shs:Int}{c b:Nat}{x:NdM×LedM}(h:NdB sh shs c b x):x.2.cat.items.length≤64:=by
 rw[h.a.hin.led.cat];exact(show 4≤64 by decide)
def lY{α:Type}{l:List α}{k:Nat}{x:α}(h:x∈l.take k++l.drop (k+1)):x∈l:=by
 rcases List.mem_append.1 h with h|h
 ·exact bF h
 ·exact cG h
def Jr{sh shs:Int}{c b:Nat}{x:NdM×LedM}(h:NdB sh shs c b x)(hb:b+24≤2000)(n tick:Int):NdB sh shs c (b+24) (x.1,ce x.2 (kj n tick)):=by
 have a1:=h.bd;have a0:mvK (kj n tick).moves=1:=rfl;have hL:=LdJ.post h.a.hin.led (kj n tick) (by rw[a0];omega);have hk:=kz x.2 (kj n tick);rw[a0] at hk
 have a2:kOf x.2≤kOf (ce x.2 (kj n tick))∧kOf (ce x.2 (kj n tick))≤kOf x.2+1:=by
  rw[hk];split<;>omega
 exact⟨⟨⟨hL,⟨h.a.hin.hl.1,by have:=h.a.hin.hl.2;dsimp only;omega⟩,h.a.hin.nd,h.a.hin.giv,h.a.hin.pts⟩,h.a.ndw,h.a.sv⟩,by dsimp only;omega,h.cnt⟩
def Hv{shs:Int}{c b M T:Nat}{W:WdM}{o:OpV}(h:WdI shs c b M T W)(ho:OpB shs o)(hc:c<64)(hb:b+24≤2000):WdI shs (c+1) (b+24) (M+600000000) (T+7) (doM shs o W).2:=by
 have a4:b≤b+24:=ab;have hN:=h.at ho.sh;have hm:WdI shs (c+1) (b+24) M (T+7) W:=h.mono ab a4 (aq _) ab;unfold doM;split
 ·have ha:=rX ho.lg ho.len;have hr:=pu (ls:=o.legs.map (·.m)) (tick:=W.tick) (until_:=W.tick+o.wait) ho.sh h.rng.2 hN.a (by have:=hN.cnt;omega) hN.items ha h.tick.1 hN.bd hb;generalize eZ o.sh shs (o.legs.map (·.m)) W.tick (W.tick+o.wait) (W.nd o.sh).1 (W.nd o.sh).2=R at *
  have a1:NdB o.sh shs (c+1) (b+24) (R.2.2.1,R.2.2.2)∧(∀y∈R.2.1,LnkM shs y)∧R.2.1.length≤600000000:=by
   rcases hr with⟨h1,h2⟩|⟨h1,h2⟩
   ·rw[h1];exact⟨hN.mono ab a4,fun y hy=>absurd hy ay,aw _⟩
   ·exact⟨⟨h2.nd,h2.bd,by have e:=h2.cnt;have:=hN.cnt;dsimp only at e ⊢;omega⟩,h2.ms,aP h2.len ab⟩
  have hs:=hm.send ho.sh a1.1 a1.2.1 a1.2.2;refine⟨hs.rng,hs.len,hs.nd,hs.ms,hs.ml,hs.tick,?_⟩;have a7:=h.il;dsimp only;split
  ·rw[aj,aI];omega
  ·omega
 split
 ·rename_i h4;have hw:=ho.adv h4;have b0:=ho.wait.2;have hr:=ll (tick:=W.tick+o.wait) ho.sh h.rng.2 hN.a hN.bd ab;have ht:=h.tick;have a6:WdI shs (c+1) (b+24) M (T+7) { W with tick:=W.tick+o.wait }:=⟨hm.rng,hm.len,hm.nd,hm.ms,hm.ml,by dsimp only;omega,hm.il⟩;exact a6.send ho.sh ⟨hr.nd,by have:=hr.bd;dsimp only;omega,by have e:=hr.cnt;have:=hN.cnt;dsimp only at e ⊢;omega⟩ hr.ms hr.len
 split
 ·exact(hm.mono (aq _) (aq _) ab (aq _)).set ho.sh ((Jr hN hb o.n W.tick).mono ab (aq _))
 split
 ·exact hm.mono (aq _) (aq _) ab (aq _)
 ·rename_i a9
  have a5:(o.n % W.ms.length).toNat<W.ms.length:=by
   have:=dC o.n (ab:(0:Int)<W.ms.length)
   omega
  have hx:=h.ms _ (aV a5);generalize W.ms[(o.n % W.ms.length).toNat]! = x at *
  have a3:WdI shs (c+1) (b+24) M (T+7) (if o.kind≠3 then { W with ms:=W.ms.take (o.n % W.ms.length).toNat++W.ms.drop ((o.n % W.ms.length).toNat+1) } else W):=by
   split
   ·refine⟨hm.rng,hm.len,hm.nd,fun y hy=>h.ms y (lY hy),?_,hm.tick,hm.il⟩;have:=h.ml
    dsimp only;rw[aj,aK,bY];omega
   ·exact hm
  generalize (if o.kind≠3 then({ W with ms:=W.ms.take (o.n % W.ms.length).toNat++W.ms.drop ((o.n % W.ms.length).toNat+1) }:WdM) else W)=W1 at *;dsimp only;split
  ·rename_i a2;have a0:=h.at a2.2;have hr:=oe (tick:=W.tick) a2.2 a0.a hx a0.bd hb;exact(a3.send a2.2 ⟨hr.nd,hr.bd,by have e:=hr.cnt;have:=a0.cnt;dsimp only at e ⊢;omega⟩ hr.ms hr.len).mono (aq _) (aq _) ab (aq _)
  ·exact a3.mono (aq _) (aq _) ab (aq _)
abbrev tWd:Nat:=42
structure SdV where
 nb:Nat
 lb:Nat
 sh:Int
 n:NdV
 S:LedM
 deriving Inhabited
def SdV.m(s:SdV):NdM×LedM:=(s.n.m,s.S)
def sdF(shs:Int)(s:SdV):HP:=cm (ndL s.nb s.lb s.sh shs s.n [aS s.lb s.S])
structure WdV where
 sds:List SdV
 lad:OA
 lcap:Nat
 nad:OA
 ncap:Nat
 msl:List MsV
 mad:OA
 mcap:Nat
 tick:Int
 ids:List Int
 iad:OA
 icap:Nat
def WdV.m(W:WdV):WdM:=⟨W.sds.map SdV.m,W.msl.map (·.m),W.tick,W.ids⟩
def dz(b:Nat):LV:=[ax b]
def vF(b:Nat):∀u∈dz b,u.oneCell' = true:=by simp[dz,Value.oneCell']
def wdC(W:WdV):LV:=[ag W.lad W.sds.length W.lcap,ag W.nad W.sds.length W.ncap,ag W.mad W.msl.length W.mcap,ac W.tick,ag W.iad W.ids.length W.icap]
def wdL(wb:Nat)(shs:Int)(W:WdV)(L:LH):LH:=obj wb tWd (wdC W)::isl dz 1 W.lad (W.sds.map (·.lb))::isl dz 1 W.nad (W.sds.map (·.nb))::tsl bC 3 tMs W.mad W.mcap W.msl::allP msP W.msl::osl (encZ .i64) 1 tInt W.iad W.icap W.ids::bigO (sdF shs) W.sds::L
def SameB(W W' : WdV):Prop:=W'.sds.map (fun s=>(s.lb,s.nb,s.sh))=W.sds.map fun s=>(s.lb,s.nb,s.sh)
def ShOk(W:WdV):Prop:=∀i:Nat,i<W.sds.length→W.sds[i]!.sh=(i:Int)
def DT{α:Type}[Inhabited α]{l:List α}{i:Nat}(h:i<l.length):l.Perm (l[i]!::l.eraseIdx i):=by
 rw[getElem!_of h,List.eraseIdx_eq_take_drop_succ];have e:l.take i++l[i]::l.drop (i+1)=l:=by rw[←bV h,cK]
 have q:(l.take i++l[i]::l.drop (i+1)).Perm (l[i]::(l.take i++l.drop (i+1))):=dX;rw[e] at q;exact q
def GC{α:Type}{l:List α}{i:Nat}(h:i<l.length)(x:α):(l.set i x).Perm (x::l.eraseIdx i):=by
 rw[List.set_eq_take_append_cons_drop,if_pos h,List.eraseIdx_eq_take_drop_succ];exact dX
def nq{shs:Int}{sds:List SdV}{i:Nat}(h:i<sds.length){s:SdV}(hs:sds[i]! = s){L:LH}:Ent (bigO (sdF shs) sds::L) (ndL s.nb s.lb s.sh shs s.n (aS s.lb s.S::bigO (sdF shs) (sds.eraseIdx i)::L)):=by
 subst hs;exact(Ent.j7 (DT h)).trans (Ent.bigO_uncons.trans Ent.openS)
def sdIn{shs:Int}{sds:List SdV}{i:Nat}(h:i<sds.length){s:SdV}(n:NdV)(S:LedM){L:LH}:Ent (ndL s.nb s.lb s.sh shs n (aS s.lb S::bigO (sdF shs) (sds.eraseIdx i)::L)) (bigO (sdF shs) (sds.set i { s with n:=n,S:=S })::L) :=
 Ent.trans (Ent.trans (Ent.f9 (A:=ndL s.nb s.lb s.sh shs n [aS s.lb S])) (Ent.bigO_cons (f:=sdF shs) (x:={ s with n:=n,S:=S }))) (Ent.j7 (GC h _).symm)
def ji{β:Type}(f:SdV→β){sds:List SdV}{i:Nat}{s:SdV}(hs:sds[i]! = s)(s' : SdV)(h:f s' = f s):(sds.set i s').map f=sds.map f:=by
 rw[List.map_set,h,←hs];by_cases hi:i<sds.length
 ·rw[getElem!_of hi];refine fH cc fun k h1 h2=>?_;rw[fG];split
  ·rename_i q;subst q;simp
  ·rfl
 ·rw[List.set_eq_of_length_le gJ]
def ln{wb:Nat}{shs:Int}{W:WdV}{i:Nat}(a0:i<W.sds.length){s:SdV}(hs:W.sds[i]! = s)(n' : NdV)(S' : LedM)(msl:List MsV)(mad:OA)(mcap:Nat)(tick:Int)(ids:List Int)(iad:OA)(icap:Nat){L:LH} :
  Ent (obj wb tWd [ag W.lad W.sds.length W.lcap,ag W.nad W.sds.length W.ncap,ag mad msl.length mcap,ac tick,ag iad ids.length icap]::isl dz 1 W.lad (W.sds.map (·.lb))::isl dz 1 W.nad (W.sds.map (·.nb))::tsl bC 3 tMs mad mcap msl::allP msP msl::osl (encZ .i64) 1 tInt iad icap ids::ndL s.nb s.lb s.sh shs n' (aS s.lb S'::bigO (sdF shs) (W.sds.eraseIdx i)::L))
   (wdL wb shs ⟨W.sds.set i { s with n:=n',S:=S' },W.lad,W.lcap,W.nad,W.ncap,msl,mad,mcap,tick,ids,iad,icap⟩ L):=by
 have e1:(W.sds.set i { s with n:=n',S:=S' }).map (fun s=>s.lb)=W.sds.map fun s=>s.lb:=ji (fun s=>s.lb) hs _ rfl;have e2:(W.sds.set i { s with n:=n',S:=S' }).map (fun s=>s.nb)=W.sds.map fun s=>s.nb:=ji (fun s=>s.nb) hs _ rfl;simp only[wdL,wdC];rw[e1,e2,bH];exact Ent.a8 (Ent.a8 (Ent.a8 (Ent.a8 (Ent.a8 (Ent.a8 (sdIn a0 n' S'))))))
def WdV.c7{W:WdV}{k:Int}{s:SdV}(hk:0≤k∧k<W.sds.length)(hs:W.sds[k.toNat]! = s):W.m.nd k=(s.n.m,s.S):=by
 subst hs;exact gw (f:=SdV.m) (l:=W.sds) (i:=k.toNat) ab
def WdV.a8{W:WdV}{k:Int}{s:SdV}(n:NdV)(S:LedM)(ds:List MsV)(r:HRes)(h1:ds.map (·.m)=r.1)(h2:n.m=r.2.1)(h3:S=r.2.2)(mad:OA)(mcap:Nat):({ W with sds:=W.sds.set k.toNat { s with n:=n,S:=S },msl:=W.msl++ds,mad:=mad,mcap:=mcap }:WdV).m=W.m.send k r:=by
 unfold WdM.send WdV.m;dsimp only;rw[List.map_set,aJ,h1];congr 1;rw[←h2,h3];rfl
def Jy{o:OpV}{L:LH}:Ent (opP o::L) (isl bA 5 o.lad o.legs::allP legP o.legs::L):=Ent.andE
def If{α:Type}{enc:α→LV}{sz E:Nat}{ad:OA}{cap:Nat}{xs:List α}{L R' : LH}[h:PickTsl L ad α enc sz E cap xs R']:∀θ R w,Sat θ (L++R) w→xs.length≤cap:=fun θ R w s=>Sat.tsl_len (L:=R'++R) (s.perm (h.perm.append_right R))
attribute [local irreducible] G GO GP GPW GPK GF GE Ev Ef EfR Ent CB GB V.Enters bX delM
abbrev Dq:=XC [.ev 8]
abbrev Dp:List Stp:=[.ev 0,.ev 1,.ev 2,.ev 4,.ev 5,.ev 6,.ev 7,.ev 8,.ev 9,.ev 10,.ev 11,.ev 12,.ev 13,.ev 14,.ef 3,.ef 15,.ev 16,.ev 17,.ev 18,.ev 19,.ev 20,.ev 21,.ev 22]
abbrev AA:=XD [.ef 10]
abbrev Az:=XD [.ef 10,.ef 11,.ev 12,.ev 13,.ef 14]
abbrev Ay:=XE [.ef 13,.ef 14]
abbrev Ax:=XC [.ev 8]
abbrev Aw:=XF [.ev 17]
abbrev Av:=XF [.ev 17,.ef 18,.ef 19,.ev 20,.ev 21,.ef 22]
def bU{φ ψ:Prop}(k:ψ)(h:Hid ψ→φ:=by intro k;(with_reducible apply G.a8);first|refine G.dr 195 1 Dq (Hid.out k)|refine G.dr 195 4 Dp (Hid.out k)|refine G.dr 195 10 AA (Hid.out k)|refine G.dr 195 11 Az (Hid.out k)|refine G.dr 195 14 Ay (Hid.out k)|refine G.dr 195 18 Ax (Hid.out k)|refine G.dr 195 24 Aw (Hid.out k)|refine G.dr 195 25 Av (Hid.out k)):φ:=h ⟨k⟩
def VZ{φ ψ:Prop}(k:ψ)(h:Hid ψ→φ:=by intro k;(repeat (first|refine aa ?_|intro zzz|refine bU ?_));(repeat revert zzz);exact Hid.out k):φ:=h ⟨k⟩
def IZ{L:LH}(wb:Nat)(shs:Int)(W:WdV)(o:OpV){c b M T:Nat}(h:WdI shs c b M T W.m)(ho:OpB shs o)(d6:ShOk W)(hc:c<64)(hb:b+24≤2000)(hM:M≤100000000000)(hT:T≤1000000) :
  Tri Tryz.prog 13 #[ax wb,aU (gM o)] (opP o::wdL wb shs W L) (fun v L'=>∃W',v=.tuple #[ac (doM shs o W.m).1.1,ac (doM shs o W.m).1.2]∧(W'.m=(doM shs o W.m).2∧SameB W W')∧L' = wdL wb shs W' L):=by
 have f0:(W.sds.length:Int)=shs:=by
  have:=h.len
  simp only[WdV.m,an] at this;exact this
 have f6:=ho.sh
 have h7:W.msl.length≤M:=by
  have:=h.ml
  simp only[WdV.m,an] at this;exact this
 have c3:W.m.ms.length=W.msl.length:=an _;have g5:W.ids.length≤c:=h.il;have g0:0≤W.tick∧W.tick≤T:=h.tick;have f4:W.m.tick=W.tick:=rfl;have f2:W.m.ids=W.ids:=rfl;have hw:=ho.wait;have a2:=h.at ho.sh;obtain⟨i,hi⟩:∃i,i=o.sh.toNat:=⟨_,rfl⟩;have a6:i<W.sds.length:=ab;obtain⟨s,hs⟩:∃s,W.sds[i]! = s:=⟨_,rfl⟩;have b7:s.sh=o.sh:=by have:=d6 i a6;rw[hs] at this;omega
 have d3:W.m.nd o.sh=(s.n.m,s.S):=WdV.c7 ab (by rw[←hi];exact hs);have e9:(W.sds.map (·.lb))[i]! = s.lb:=by rw[←hs];exact gw (f:=fun s:SdV=>s.lb) a6
 have f5:(W.sds.map (·.nb))[i]! = s.nb:=by rw[←hs];exact gw (f:=fun s:SdV=>s.nb) a6
 have h6:(W.sds.map (·.lb)).length=W.sds.length:=an _;have h8:(W.sds.map (·.nb)).length=W.sds.length:=an _;rw[d3] at a2;generalize hR:doM shs o W.m=R;unfold doM at hR;rw[d3,f4,f2] at hR;refine Tri.bd ?_;refine G.ent Jy ?_;simp only[wdL,wdC];repeat first|refine G.sm 2 ?_|refine dq ?_|intro _|refine bU ?_
 rename_i bo;rw[←hi,f5];simp only[gM];by_cases h0:o.kind=0
 ·rw[if_pos h0] at hR;have ha:=rX ho.lg ho.len;have e5:=pu (ls:=o.legs.map (·.m)) (tick:=W.tick) (until_:=W.tick+o.wait) ho.sh h.rng.2 a2.a (by have:=a2.cnt;omega) a2.items ha g0.1 a2.bd hb;have f1:∀x∈o.legs,x.m.am.length≤1000:=fun x hx=>by have:=(ho.lg x hx).len;omega
  have h1:=ho.len;have e6:=a2.cnt;have g4:0≤s.n.cnt:=a2.a.ndw.cnt
  have e7:glk s.n.m.begun (o.sh*4294967296+s.n.cnt)=none:=by
   cases hg:glk s.n.m.begun (o.sh*4294967296+s.n.cnt) with
   | none=>rfl
   | some x =>
    have q:=a2.a.ndw.fr _ (cu hg);have e:s.n.m.cnt=s.n.cnt:=rfl;dsimp only at q;omega
  refine VZ ?_;intros;refine GPW.ca (DE o.lad o.legs.length o.lcap o.legs rfl ab) ?_;rintro _ _⟨lad,lcap,rfl,rfl⟩;refine VZ ?_;intros;refine GPW.ent ((Ent.at (A:=osl bA 5 tLeg lad lcap o.legs) Ent.freezeSl).trans (Ent.at (A:=bigO (sdF shs) W.sds) (nq a6 hs))) ?_;rw[b7];refine GPW.ent (L':=isl bA 5 lad o.legs::allP legP o.legs::ndL s.nb s.lb o.sh shs s.n (aS s.lb s.S::(bigO (sdF shs) (W.sds.eraseIdx i)::obj wb tWd [ag W.lad W.sds.length W.lcap,ag W.nad W.sds.length W.ncap,ag W.mad W.msl.length W.mcap,ac W.tick,ag W.iad W.ids.length W.icap]::isl dz 1 W.lad (W.sds.map (·.lb))::isl dz 1 W.nad (W.sds.map (·.nb))::tsl bC 3 tMs W.mad W.mcap W.msl::allP msP W.msl::osl (encZ .i64) 1 tInt W.iad W.icap W.ids::obj bo tOp [ac o.kind,ac o.sh,ac o.n,ag o.lad o.legs.length o.lcap,ac o.wait]::L))) (by simp only[ndL,ndC];exact ah) ?_;refine GPW.ca (tX s.nb s.lb o.sh shs ⟨ho.sh.1,ho.sh.2,h.rng.2⟩ s.n s.S cat22 a2.a.hin a2.items (by have e:s.n.m.cnt=s.n.cnt:=rfl;dsimp only at e6;omega) lad o.legs.length lcap o.legs rfl ab f1 W.tick (W.tick+o.wait) (by have:=a2.bd;dsimp only at this;omega) e7) ?_;generalize eZ o.sh shs (o.legs.map (·.m)) W.tick (W.tick+o.wait) s.n.m s.S=B at *;rintro _ _⟨d0,b3,ds,n',rfl,a7,b1,rfl⟩
  have d1:ds.length≤400000:=by
   have e:=congrArg List.length a7;rw[an] at e;rcases e5 with⟨q,_⟩|⟨_,q⟩
   ·rw[q] at e;dsimp only at e;rw[bz] at e;omega
   ·have:=q.len;omega
  simp only[ndL,ndC];refine VZ ?_;intros;refine GO.ef (Ef.j9 (enc:=bC) (ys:=ds) rfl rfl rfl rfl rfl (fun e _=>eJ e) ab ab) ae ?_;rintro _ _⟨a1,a0,rfl,rfl⟩;refine VZ ?_;intros;by_cases he:B.1.2=0
  ·rw[if_pos he] at hR;refine VZ ?_;intros;refine GO.ef (Ef.a8 (enc:=encZ .i64) (e:=B.1.1) rfl rfl rfl rfl rfl aQ (iu _ _) ab ab) ae ?_;rintro _ _⟨c6,b9,rfl,rfl⟩;refine VZ ?_;intros;refine KX.a8 aA ?_ ⟨⟨W.sds.set i { s with n:=n',S:=B.2.2.2 },W.lad,W.lcap,W.nad,W.ncap,W.msl++ds,a1,a0,W.tick,W.ids++[B.1.1],c6,b9⟩,by rw[←hR];rfl,⟨?_,?_⟩,rfl⟩
   ·refine(Ent.at (A:=allP msP ds) (Ent.refl _)).trans ?_;refine(Ent.at (A:=allP msP W.msl) (Ent.refl _)).trans ?_;refine(Ent.d7 (f:=msP) fq).trans ?_;refine Ent.trans ?_ (ln a6 hs n' _ _ _ _ _ _ _ _);rw[b7];simp only[ndL,ndC];exact ah
   ·rw[←hR,hi];have e:=WdV.a8 (W:=W) (k:=o.sh) (s:=s) n' B.2.2.2 ds B.2 a7 b1 rfl a1 a0;dsimp only;rw[←e];rfl
   ·exact ji _ hs _ rfl
  ·rw[if_neg he] at hR;refine VZ ?_;intros;refine KX.a8 aA ?_ ⟨⟨W.sds.set i { s with n:=n',S:=B.2.2.2 },W.lad,W.lcap,W.nad,W.ncap,W.msl++ds,a1,a0,W.tick,W.ids,W.iad,W.icap⟩,by rw[←hR];rfl,⟨?_,?_⟩,rfl⟩
   ·refine(Ent.at (A:=allP msP ds) (Ent.refl _)).trans ?_;refine(Ent.at (A:=allP msP W.msl) (Ent.refl _)).trans ?_;refine(Ent.d7 (f:=msP) fq).trans ?_;refine Ent.trans ?_ (ln a6 hs n' _ _ _ _ _ _ _ _);rw[b7];simp only[ndL,ndC];exact ah
   ·rw[←hR,hi];have e:=WdV.a8 (W:=W) (k:=o.sh) (s:=s) n' B.2.2.2 ds B.2 a7 b1 rfl a1 a0;dsimp only;rw[←e];rfl
   ·exact ji _ hs _ rfl
 rw[if_neg h0] at hR;by_cases h4:o.kind=4
 ·rw[if_pos h4] at hR;have e2:=ho.adv h4;have d4:=ll (tick:=W.tick+o.wait) ho.sh h.rng.2 a2.a a2.bd ab;refine VZ ?_;intros;refine GPW.ent (Ent.at (A:=bigO (sdF shs) W.sds) (nq a6 hs)) ?_;rw[b7];refine GPW.ent (L':=ndL s.nb s.lb o.sh shs s.n (aS s.lb s.S::(bigO (sdF shs) (W.sds.eraseIdx i)::obj wb tWd [ag W.lad W.sds.length W.lcap,ag W.nad W.sds.length W.ncap,ag W.mad W.msl.length W.mcap,ac (W.tick+o.wait),ag W.iad W.ids.length W.icap]::isl dz 1 W.lad (W.sds.map (·.lb))::isl dz 1 W.nad (W.sds.map (·.nb))::tsl bC 3 tMs W.mad W.mcap W.msl::allP msP W.msl::osl (encZ .i64) 1 tInt W.iad W.icap W.ids::obj bo tOp [ac o.kind,ac o.sh,ac o.n,ag o.lad o.legs.length o.lcap,ac o.wait]::isl bA 5 o.lad o.legs::allP legP o.legs::L))) (by simp only[ndL,ndC];exact ah) ?_;refine GPW.ca (qJ s.nb s.lb o.sh shs ho.sh h.rng.2 s.n s.S cat22 a2.a (by have:=a2.bd;dsimp only at this;omega) (W.tick+o.wait)) ?_;dsimp only at d4 hR;generalize eu o.sh (W.tick+o.wait) s.n.m s.S=B at *;rintro _ _⟨d0,b3,ds,n',rfl,a7,b1,rfl⟩
  have d1:ds.length≤600000000:=by
   have e:=congrArg List.length a7;have:=d4.len
   rw[an] at e;omega
  simp only[ndL,ndC];refine VZ ?_;intros;refine GPW.ef (Ef.j9 (enc:=bC) (ys:=ds) rfl rfl rfl rfl rfl (fun e _=>eJ e) ab ab) ae ?_;rintro _ _⟨a1,a0,rfl,rfl⟩;refine VZ ?_;intros;refine KX.a8 aA ?_ ⟨⟨W.sds.set i { s with n:=n',S:=B.2.2 },W.lad,W.lcap,W.nad,W.ncap,W.msl++ds,a1,a0,W.tick+o.wait,W.ids,W.iad,W.icap⟩,by rw[←hR];rfl,⟨?_,?_⟩,rfl⟩
  ·refine(Ent.at (A:=allP msP ds) (Ent.refl _)).trans ?_;refine(Ent.at (A:=allP msP W.msl) (Ent.refl _)).trans ?_;refine(Ent.d7 (f:=msP) fq).trans ?_;refine Ent.trans ?_ (ln a6 hs n' _ _ _ _ _ _ _ _);rw[b7];simp only[ndL,ndC];exact ah
  ·rw[←hR,hi];have e:=WdV.a8 (W:={ W with tick:=W.tick+o.wait }) (k:=o.sh) (s:=s) n' B.2.2 ds B a7 b1 rfl a1 a0;exact e
  ·exact ji _ hs _ rfl
 rw[if_neg h4] at hR;by_cases h5:o.kind=5
 ·rw[if_pos h5] at hR;have e4:=a2.bd;dsimp only at e4;have b4:(W.sds.map (·.lb))[o.sh.toNat]! = s.lb:=by rw[←hi];exact e9
  refine VZ ?_;intros;refine GPW.ca (Cs o ho.num W.tick) ?_;rintro _ _⟨a9,rfl,rfl⟩;refine VZ ?_;intros;refine GPW.ent (Ent.at (A:=bigO (sdF shs) W.sds) (nq a6 hs)) ?_;simp only[ndL,ndC];refine GPW.ent (L':=aS ((W.sds.map (·.lb))[o.sh.toNat]!) s.S::stM (jh o.n W.tick a9)::stP (jh o.n W.tick a9)::(obj s.nb tNd (ndC s.lb s.sh shs s.n.cnt s.n.hl s.n.mb s.n.mp s.n.mr)::gmap kvI cJ s.n.mb s.n.begun::bigO exF s.n.begun::gmap kvI cL s.n.mp s.n.parts::bigO ptF s.n.parts::gmap kvP bT s.n.mr (tfK s.n.recv)::bigO (sdF shs) (W.sds.eraseIdx i)::obj wb tWd [ag W.lad W.sds.length W.lcap,ag W.nad W.sds.length W.ncap,ag W.mad W.msl.length W.mcap,ac W.tick,ag W.iad W.ids.length W.icap]::isl dz 1 W.lad (W.sds.map (·.lb))::isl dz 1 W.nad (W.sds.map (·.nb))::tsl bC 3 tMs W.mad W.mcap W.msl::allP msP W.msl::osl (encZ .i64) 1 tInt W.iad W.icap W.ids::L)) (by rw[b4];simp only[ndC];exact ah) ?_;refine GPW.cr (kO ((W.sds.map (·.lb))[o.sh.toNat]!) s.S (kOf s.S) a2.a.hin.led.a (by rw[a2.a.hin.led.cat];exact a2.a.hin.led.ok) a2.a.hin.led.now (jh o.n W.tick a9) (wK _ _ _).1 (wK _ _ _).2 (by show kOf s.S+1≤2000;omega) sY) ?_;refine VZ ?_;intros;refine KX.a8 aA ?_ ⟨⟨W.sds.set i { s with n:=s.n,S:=ce s.S (kj o.n W.tick) },W.lad,W.lcap,W.nad,W.ncap,W.msl,W.mad,W.mcap,W.tick,W.ids,W.iad,W.icap⟩,by rw[←hR];rfl,⟨?_,?_⟩,rfl⟩
  ·rw[b4,show(jh o.n W.tick a9).m=kj o.n W.tick from rfl];refine Ent.trans ?_ (ln a6 hs s.n _ _ _ _ _ _ _ _);simp only[ndL,ndC];exact ah
  ·rw[←hR];unfold WdV.m;dsimp only;rw[List.map_set,hi];rfl
  ·exact ji _ hs _ rfl
 rw[if_neg h5] at hR;by_cases hz:W.msl.length=0
 ·rw[if_pos (c3.trans hz)] at hR;have i0:(W.msl.length:Int)=0:=ab;refine VZ ?_;intros;refine KX.a8 aA ?_ ⟨W,by rw[←hR];rfl,⟨by rw[←hR],rfl⟩,rfl⟩;exact ah
 rw[if_neg (fun q=>hz (c3.symm.trans q))] at hR;have g3:(0:Int)<W.msl.length:=ab;have e8:=ed o.n (ab:(W.msl.length:Int)≠0);have g6:=dC o.n g3;have h9:=ho.num;rw[c3] at hR;have d2:(o.n % (W.msl.length:Int)).toNat<W.msl.length:=ab;have g7:0≤o.n % (W.msl.length:Int):=e8;generalize hk:o.n % (W.msl.length:Int)=k at *;have g2:W.m.ms[k.toNat]! = W.msl[k.toNat]!.m:=gw (f:=fun x:MsV=>x.m) d2;have b5:W.msl[k.toNat]!∈W.msl:=aV d2;have hX:LnkM shs W.msl[k.toNat]!.m:=h.ms _ (alStd0List_mem_map_of_mem b5);rw[g2] at hR;repeat first|refine G.sm 20 ?_|refine dq ?_|intro _|refine bU ?_
 rename_i c0;rw[hk];refine G.ent (Ent.at (A:=allP msP W.msl) (Ent.c9 (f:=msP) b5)) ?_;generalize W.msl[k.toNat]! = x at *;refine G.c9 (If (ad:=W.mad) (xs:=W.msl)) fun c1=>?_;refine G.c7 (α:=OA×Nat×List MsV) (fun g=>g.2.2=if o.kind≠3 then W.msl.take k.toNat++W.msl.drop (k.toNat+1) else W.msl) (fun g=>[(0,ax wb),(3,ax bo),(4,ac 0),(5,ac 0),(11,ax c0)]) (fun g=>obj wb tWd [ag W.lad W.sds.length W.lcap,ag W.nad W.sds.length W.ncap,ag g.1 g.2.2.length g.2.1,ac W.tick,ag W.iad W.ids.length W.icap]::isl dz 1 W.lad (W.sds.map (·.lb))::isl dz 1 W.nad (W.sds.map (·.nb))::tsl bC 3 tMs g.1 g.2.1 g.2.2::allP msP g.2.2::osl (encZ .i64) 1 tInt W.iad W.icap W.ids::bigO (sdF shs) W.sds::obj c0 tMs (bC x)::msP x::obj bo tOp [ac o.kind,ac o.sh,ac o.n,ag o.lad o.legs.length o.lcap,ac o.wait]::L) ?_ ?_
 ·by_cases h3:o.kind=3
  ·rw[if_neg (fun q=>q h3)];refine VZ ?_;intros;exact⟨(W.mad,W.mcap,W.msl),rfl,aC,by exact ah⟩
  ·rw[if_pos h3];refine G.ent (Ent.c8 bC 3 tMs) ?_;refine VZ ?_;intros;refine GO.ef (Ef.d7 (hq:=Rds.take (xs:=W.msl) inferInstance k.toNat) rfl rfl rfl rfl (by rw[aK];omega) (fun e _=>eJ e) (by rw[bz,aK];omega) (by rw[bz,aK];omega)) ae ?_;rintro _ _⟨a1,a0,rfl,rfl⟩;rw[ak];have e0:(W.msl.take k.toNat).length=k.toNat:=by rw[aK];omega
   refine VZ ?_;intros;refine GO.ef (Ef.d7 (xs:=W.msl.take k.toNat) (hq:=Rds.drop (xs:=W.msl) inferInstance c1 (k+1).toNat) rfl rfl rfl rfl (by rw[bY]) (fun e _=>eJ e) (by rw[e0,bY];omega) (by rw[e0,bY];omega)) ae ?_;rintro _ _⟨a5,a3,rfl,rfl⟩;rw[show(k+1).toNat=k.toNat+1 by omega];refine VZ ?_;intros;refine⟨(a5,a3,W.msl.take k.toNat++W.msl.drop (k.toNat+1)),rfl,aC,?_⟩;refine(Ent.at (A:=osl bC 3 tMs a5 a3 (W.msl.take k.toNat++W.msl.drop (k.toNat+1))) Ent.k9).trans ?_;refine(Ent.at (A:=allP msP W.msl) (Ent.g9 (l':=W.msl.take k.toNat++W.msl.drop (k.toNat+1)) fun y hy=>lY hy)).trans ?_;exact ah
 rintro⟨a1,a0,ml⟩ b0;dsimp only at b0 ⊢
 have f3:ml.length≤W.msl.length:=by
  rw[b0];split
  ·rw[aj,aK,bY];omega
  ·exact aq _
 have e1:(if o.kind≠3 then(⟨W.m.nds,W.m.ms.take k.toNat++W.m.ms.drop (k.toNat+1),W.tick,W.ids⟩:WdM) else W.m)=⟨W.sds.map SdV.m,ml.map (·.m),W.tick,W.ids⟩:=by
  rw[b0];split
  ·rw[aJ,List.map_take,List.map_drop];rfl
  ·rfl
 rw[e1] at hR;dsimp only at hR;have c5:=hX.x.to;have g1:x.m.to<W.sds.length:=ab;by_cases h2:o.kind=2
 ·rw[if_neg (fun q=>q.1 h2)] at hR;refine VZ ?_;intros;refine KX.a8 aA ?_ ⟨⟨W.sds,W.lad,W.lcap,W.nad,W.ncap,ml,a1,a0,W.tick,W.ids,W.iad,W.icap⟩,by rw[←hR];rfl,⟨by rw[←hR];rfl,rfl⟩,rfl⟩;simp only[wdL,wdC];exact ah
 rw[if_pos ⟨h2,c5⟩] at hR;obtain⟨j,hj⟩:∃j,j=x.m.to.toNat:=⟨_,rfl⟩;have c2:j<W.sds.length:=ab;obtain⟨s2,b2⟩:∃s,W.sds[j]! = s:=⟨_,rfl⟩;have b8:s2.sh=x.m.to:=by have:=d6 j c2;rw[b2] at this;omega
 have c4:W.m.nd x.m.to=(s2.n.m,s2.S):=WdV.c7 ab (by rw[←hj];exact b2)
 have b6:(W.sds.map (·.nb))[x.m.to.toNat]! = s2.nb:=by
  rw[←b2,hj];exact gw (f:=fun s:SdV=>s.nb) ab
 have a4:=h.at c5;rw[c4] at a4 hR;dsimp only at hR;have d5:=oe (tick:=W.tick) c5 a4.a hX a4.bd hb;have ha:=hX.x.am;have e3:=a4.bd;dsimp only at e3 d5;refine VZ ?_;intros;refine GPW.ent (Ent.at (A:=bigO (sdF shs) W.sds) (nq c2 b2)) ?_;rw[b8];refine GPW.ent (L':=msP x::ndL ((W.sds.map (·.nb))[x.m.to.toNat]!) s2.lb x.m.to shs s2.n (aS s2.lb s2.S::(bigO (sdF shs) (W.sds.eraseIdx j)::obj wb tWd [ag W.lad W.sds.length W.lcap,ag W.nad W.sds.length W.ncap,ag a1 ml.length a0,ac W.tick,ag W.iad W.ids.length W.icap]::isl dz 1 W.lad (W.sds.map (·.lb))::isl dz 1 W.nad (W.sds.map (·.nb))::tsl bC 3 tMs a1 a0 ml::allP msP ml::osl (encZ .i64) 1 tInt W.iad W.icap W.ids::obj c0 tMs (bC x)::L))) (by rw[b6];simp only[ndL,ndC];exact ah) ?_;refine GPW.ca (pW ((W.sds.map (·.nb))[x.m.to.toNat]!) s2.lb x.m.to shs s2.n s2.S cat22 x hX.ct (by have:=hX.x.kd;omega) a4.a.hin ab W.tick) ?_;generalize eH x.m.to shs x.m W.tick s2.n.m s2.S=B at *;rintro _ _⟨d0,b3,ds,n',rfl,a7,b1,rfl⟩
 have d1:ds.length≤3300:=by
  have e:=congrArg List.length a7;have:=d5.len
  rw[an] at e;omega
 simp only[ndL,ndC];refine VZ ?_;intros;refine GPW.ef (Ef.j9 (enc:=bC) (ys:=ds) rfl rfl rfl rfl rfl (fun e _=>eJ e) ab ab) ae ?_;rintro _ _⟨a5,a3,rfl,rfl⟩;refine VZ ?_;intros;rw[b6];refine KX.a8 aA ?_ ⟨⟨W.sds.set j { s2 with n:=n',S:=B.2.2 },W.lad,W.lcap,W.nad,W.ncap,ml++ds,a5,a3,W.tick,W.ids,W.iad,W.icap⟩,by rw[←hR];rfl,⟨?_,?_⟩,rfl⟩
 ·refine(Ent.at (A:=allP msP ds) (Ent.refl _)).trans ?_;refine(Ent.at (A:=allP msP ml) (Ent.refl _)).trans ?_;refine(Ent.d7 (f:=msP) fq).trans ?_;refine Ent.trans ?_ (ln c2 b2 n' _ _ _ _ _ _ _ _);rw[b8];simp only[ndL,ndC];exact ah
 ·rw[←hR,hj];exact WdV.a8 (W:=⟨W.sds,W.lad,W.lcap,W.nad,W.ncap,ml,a1,a0,W.tick,W.ids,W.iad,W.icap⟩) (k:=x.m.to) (s:=s2) n' B.2.2 ds B a7 b1 rfl a5 a3
 ·exact ji _ b2 _ rfl
