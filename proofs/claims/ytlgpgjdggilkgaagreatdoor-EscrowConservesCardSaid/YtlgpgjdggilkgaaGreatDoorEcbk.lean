/- Lemmas. -/
import Derived.Test.YtlgpgjdggilkgaaGreatDoorEcbj
set_option linter.all false
set_option maxHeartbeats 8000000
namespace Go.Proofs.YtlgpgjdggilkgaaGreatDoor
section
open Go.V
noncomputable def eH(sh shs:Int)(x:MsM)(tick:Int)(N:NdM)(S:LedM):HRes :=
 if x.to=sh∧(0≤x.frm∧x.frm<shs)∧x.frm≠sh then delM sh tick (bZ sh x.frm x.ct tick N S).1 (bZ sh x.frm x.ct tick N S).2.1 (bZ sh x.frm x.ct tick N S).2.2 else([],N,S)
def Jb(m:CtM):0<(ctB m).length:=by
 unfold ctB;simp only[aj,aM,bz];omega
def xc{cat:CatM}{sh frm tick:Int}{m:CtM}{N:NdM}{S:LedM}(hN:HIn cat sh N S)(hm:CtOk m)(hb:kOf S+pot N+2*amT m.legs≤2000)(hk:0≤m.kind):((∀y∈(bZ sh frm m tick N S).1,POk sh 7 y∧cost sh y=0)∧HIn cat sh (bZ sh frm m tick N S).2.1 (bZ sh frm m tick N S).2.2∧kOf (bZ sh frm m tick N S).2.2+pot (bZ sh frm m tick N S).2.1≤kOf S+pot N+2*amT m.legs)∧(delM sh tick (bZ sh frm m tick N S).1 (bZ sh frm m tick N S).2.1 (bZ sh frm m tick N S).2.2).1.length≤3300∧(bZ sh frm m tick N S).1.length≤3300:=by
 obtain⟨h1,h2,h3⟩:=sg (from_:=frm) (tick:=tick) hN hm (aq _) hb;have hl:=qr (from_:=frm) (tick:=tick) (m:=m) hN
 have hp:∀y∈(bZ sh frm m tick N S).1,POk sh 7 y∧cost sh y=0:=fun y hy=>by
  have hs:=h3 y hy;have h4:=hs.kind;refine⟨⟨hs.ct,by decide,fun _=>by omega⟩,?_⟩;unfold cost;split
  ·rename_i q;rw[hs.own q];rfl
  ·rfl
 refine⟨⟨hp,h1,h2⟩,?_,aP (Nat.le_mul_of_pos_right _ (uN (m.kind+1))) (aP hl (qG _))⟩
 obtain⟨_,_,_,i4⟩:=rb (cat:=cat) (sh:=sh) (f:=bX sh tick 7) (b:=kOf S+pot N+2*amT m.legs) (C:=cMx (m.kind+1)) (fun y=>Sent sh m.kind y∧POk sh 7 y∧cost sh y=0) (fun y N' S' hy a0 a1=>by
  obtain⟨q1,q2,q3,q4⟩:=oS (tick:=tick) hb 7 y N' S' hy.2.1 a0 (by rw[hy.2.2];exact a1);exact⟨q1,q2,q3,aP q4 (sG hy.1.kind)⟩) _ _ _ (fun y hy=>⟨h3 y hy,hp y hy⟩) h1 h2
 exact aP i4 (aP hl (qG _))
def jZ{sh:Int}:∀{l:List MsM},(∀y∈l,cost sh y=0)→fS sh l=0
 | [],_=>rfl
 | y::l,h=>by
  have e:fS sh (y::l)=cost sh y+fS sh l:=by unfold fS;rw[aF,cq]
  rw[e,h y av,jZ fun x hx=>h x (au _ hx)]
attribute [local irreducible] G GO GP GPW GPK GF GE Ev Ef EfR Ent CB GB V.Enters bX
def qo{L:LH}(nb lb:Nat)(sh shs cnt hl:Int)(mb mp mr:Nat)(k:Int):Tri Tryz.prog 85 #[ax nb,ac k] (obj nb tNd (ndC lb sh shs cnt hl mb mp mr)::L) (rtQ (.bool (dB (0≤k∧k<shs))) (obj nb tNd (ndC lb sh shs cnt hl mb mp mr)::L)):=by
 refine Tri.bd ?_;simp only[ndC];by_cases h0:0≤k
 ·by_cases h1:k<shs
  ·rw[bE ⟨h0,h1⟩];refine Ks ?_;intros;refine KX.a8 aA (Ent.refl _) ⟨?_,rfl⟩;exact congrArg Value.bool (bE h1)
  ·rw[aW (fun q=>h1 q.2)];refine Ks ?_;intros;refine KX.a8 aA (Ent.refl _) ⟨?_,rfl⟩;exact congrArg Value.bool (aW h1)
 ·rw[aW (fun q=>h0 q.1)];refine Ks ?_;intros;exact KX.en ⟨rfl,rfl⟩
abbrev Dd:=XD [.ev 10,.ef 11,.ev 12,.ev 13,.ev 14,.ev 15,.ev 16,.ev 17,.ev 18,.ev 19,.ev 20,.ev 21,.ev 22,.ev 23,.ev 24,.ev 25,.ev 26,.ev 27,.ev 28]
def UQ{φ ψ:Prop}(k:ψ)(h:Hid ψ→φ:=by intro k;(repeat (first|refine aa ?_|intro zzz|refine G.dr 43 1 Dd ?_));(repeat revert zzz);exact Hid.out k):φ:=h ⟨k⟩
def pW{L:LH}(nb lb:Nat)(sh shs:Int)(n:NdV)(S:LedM)(cat:CatM)(x:MsV)(a1:CtOk x.m.ct)(a5:0≤x.m.ct.kind)(hN:HIn cat sh n.m S)(hk:kOf S+pot n.m+2*amT x.m.ct.legs≤2000)(tick:Int) :
  Tri Tryz.prog 38 #[ax nb,aU (bC x),ac tick] (msP x::ndL nb lb sh shs n (aS lb S::L)) (lN nb lb sh shs (eH sh shs x.m tick n.m S) L):=by
 have a6:=Jb x.m.ct;refine Tri.bd ?_;simp only[ndL,ndC];by_cases ht:x.m.to=sh
 case neg =>
  have hr:eH sh shs x.m tick n.m S=([],n.m,S):=if_neg fun q=>ht q.1;rw[hr];refine UQ ?_;intros;refine KX.a8 aA ?_ ⟨none,0,[],n,rfl,rfl,rfl,rfl⟩;refine(Ent.c8 bC 3 tMs).trans ((Ent.c7 msP).trans ?_);simp only[ndL,ndC];exact ah
 refine UQ ?_;intros;rename_i b4;refine GPW.ent (L':=obj nb tNd [ax lb,ac sh,ac shs,ac n.cnt,ac n.hl,.map (some n.mb),.map (some n.mp),.map (some n.mr)]::(obj b4 tMs (bC x)::msP x::gmap kvI cJ n.mb n.begun::bigO exF n.begun::gmap kvI cL n.mp n.parts::bigO ptF n.parts::gmap kvP bT n.mr (tfK n.recv)::aS lb S::L)) ah ?_;refine GPW.cr (qo nb lb sh shs n.cnt n.hl n.mb n.mp n.mr x.m.frm) ?_;simp only[ndC];by_cases a0:0≤x.m.frm∧x.m.frm<shs
 case neg =>
  have hr:eH sh shs x.m tick n.m S=([],n.m,S):=if_neg fun q=>a0 q.2.1;rw[aW a0];refine UQ ?_;intros;rw[hr];refine KX.a8 aA ?_ ⟨none,0,[],n,rfl,rfl,rfl,rfl⟩;refine(Ent.c8 bC 3 tMs).trans ((Ent.c7 msP).trans ?_);simp only[ndL,ndC];exact ah
 rw[bE a0];by_cases a2:x.m.frm=sh
 ·have hr:eH sh shs x.m tick n.m S=([],n.m,S):=if_neg fun q=>q.2.2 a2;refine UQ ?_;intros;rw[hr];refine KX.a8 aA ?_ ⟨none,0,[],n,rfl,rfl,rfl,rfl⟩;refine(Ent.c8 bC 3 tMs).trans ((Ent.c7 msP).trans ?_);simp only[ndL,ndC];exact ah
 have hr:eH sh shs x.m tick n.m S=delM sh tick (bZ sh x.m.frm x.m.ct tick n.m S).1 (bZ sh x.m.frm x.m.ct tick n.m S).2.1 (bZ sh x.m.frm x.m.ct tick n.m S).2.2:=if_pos ⟨ht,a0,a2⟩;obtain⟨⟨r1,r2,r3⟩,r4,r5⟩:=xc (frm:=x.m.frm) (tick:=tick) hN a1 hk a5;refine UQ ?_;intros;refine GO.ent (L':=msP x::ndL nb lb sh shs n (aS lb S::L)) (by simp only[ndL,ndC];exact ah) ?_;refine GO.ca (rB nb lb sh shs n S cat x a1 hN hk tick) ?_;rintro _ _⟨ad,cap,ms,n1,rfl,a3,a4,rfl⟩;rw[←a3,←a4] at hr r4;rw[←a3] at r1 r5;rw[←a4] at r2 r3;rw[hr];generalize (bZ sh x.m.frm x.m.ct tick n.m S).2.2=S1 at *;have hP:∀y∈ms,POk sh 7 y.m:=fun y hy=>(r1 _ (alStd0List_mem_map_of_mem hy)).1;have hz:fS sh (ms.map (·.m))=0:=jZ fun y hy=>(r1 y hy).2;rw[an] at r5;refine UQ ?_;intros;refine GO.ef (Ef.d9 (vs:=[ax nb,ag ad ms.length cap,ac tick]) (nc (L:=L) nb lb sh shs n1 S1 cat 2000 (aq _) tick ad cap ms hP r2 ab ab ab) rfl) ae ?_;intro v L' hv;refine UQ ?_;intros;refine KX.a8 aA (Ent.refl _) ?_;exact hv
end
section
open Go.V
def ga(sh id:Int)(x:ExM)(tick:Int):List MsM×ExM :=
 if x.dec=true then(dl sh x.givers x.told (ct0 3 id 0 x.takes),x)
 else if x.until_<tick then(dl sh x.givers [] (ct0 3 id 0 false),x.decided false)
 else(dl sh x.givers x.voted ⟨1,id,0,false,x.legs,[]⟩,x)
def EN{id:Int}{x:ExV}{L:LH}:Ent (isl bA 5 x.lad x.legs::allP legP x.legs::L) (ctP ⟨1,id,0,false,x.legs,x.lad,x.lcap,[],none,0⟩::isl bA 5 x.lad x.legs::allP legP x.legs::L):=by
 refine(Ent.dup (bO _ _ _ _).pers).trans ?_;refine Ent.trans (B:=allP legP x.legs::isl bA 5 x.lad x.legs::isl bA 5 x.lad x.legs::L) ah ?_;refine(Ent.dup (cH fC).pers).trans ?_;refine(Ent.d9 (encZ .i64) 1 none).trans ?_;refine Ent.trans (B:=allP legP x.legs::isl (encZ .i64) 1 none []::allP legP x.legs::isl bA 5 x.lad x.legs::isl bA 5 x.lad x.legs::L) ah ?_;refine(Ent.f8 (cH fC) (bO _ _ _ _)).trans ?_;refine Ent.trans (B:=isl bA 5 x.lad x.legs::andP (allP legP x.legs) (isl (encZ .i64) 1 none [])::isl bA 5 x.lad x.legs::allP legP x.legs::L) ah ?_;exact Ent.f8 (bO _ _ _ _) (PersM.and (cH fC) (bO _ _ _ _))
attribute [local irreducible] G GO GP GPW GPK GF GE Ev Ef EfR Ent CB GB V.Enters bX
def GW{L:LH}(lb:Nat)(sh shs:Int)(h0:0≤sh)(h1:sh<shs)(h2:shs≤12) :
  Tri Tryz.prog 49 #[ax lb,ac sh,ac shs] L (fun v L'=>∃nb mb mp mr,v=.tuple #[ax nb,ac 0]∧L' = ndL nb lb sh shs ⟨mb,mp,mr,0,0,[],[],[]⟩ L):=by
 have e1:¬shs<1:=ab;have e2:¬shs>12:=ab;have e3:¬sh<0:=ab;have e4:¬sh ≥ shs:=ab;refine Tri.bd ?_;refine Ks ?_;intros;refine GO.ef (Ef.d8 kvI cJ (.inl rfl)) ae ?_;rintro _ _⟨mb,rfl,rfl⟩;refine GO.ef (Ef.d8 kvI cL (.inl rfl)) ae ?_;rintro _ _⟨mp,rfl,rfl⟩;refine GO.ef (Ef.d8 kvP bT (.inl rfl)) ae ?_;rintro _ _⟨mr,rfl,rfl⟩;refine Ks ?_;intros;rename_i nb;refine KX.a8 aA ?_ ⟨nb,mb,mp,mr,rfl,rfl⟩;simp only[ndL,ndC];refine(Ent.j0 exF).trans ((Ent.j0 ptF).trans ?_);rw[show tfK []=[] from rfl];exact ah
abbrev Dc:=XD [.ev 10,.ev 11,.ef 12,.ev 13]
abbrev Db:=XD [.ev 10,.ev 11,.ef 12,.ev 13]
def UX{φ ψ:Prop}(k:ψ)(h:Hid ψ→φ:=by intro k;(repeat (first|refine aa ?_|intro zzz|refine G.dr 51 2 Dc ?_|refine G.dr 51 5 Db ?_));(repeat revert zzz);exact Hid.out k):φ:=h ⟨k⟩
def Et{L:LH}(nb lb:Nat)(sh shs cnt hl:Int)(mb mp mr:Nat)(id:Int)(a4:I64 id)(x:ExV)(hx:ExOk x.m)(tick:Int) :
  Tri Tryz.prog 96 #[ax nb,ac id,.pointer (some ⟨x.b,0,none⟩),ac tick] (obj nb tNd (ndC lb sh shs cnt hl mb mp mr)::exL x L) (fun v L'=>∃ad cap ms y,v=ag ad ms.length cap∧y.b=x.b∧(ms.map (·.m),y.m)=ga sh id x.m tick∧L' = osl bC 3 tMs ad cap ms::allP msP ms::obj nb tNd (ndC lb sh shs cnt hl mb mp mr)::exL y L):=by
 have a3:x.givers.length≤100:=hx.gl;refine Tri.bd ?_;simp only[ndC,exL,exC];cases hd:x.dec with
 | true =>
  have hr:ga sh id x.m tick=(dl sh x.givers x.told (ct0V 3 id 0 x.takes).m,x.m):=by
   unfold ga;rw[if_pos (show x.m.dec=true from hd)];rfl
  have a0:=mh (L:=gmap kvI bT x.mt (tfL x.told)::gmap kvI bT x.mv (tfL x.voted)::isl bA 5 x.lad x.legs::allP legP x.legs::L) nb lb sh shs cnt hl mb mp mr x a3 (ct0V 3 id 0 x.takes) (ju (kind:=3) (index:=0) (by unfold I64;omega) a4 (by unfold I64;omega)) (some x.mt) x.told (.inr ⟨x.mt,_,rfl,rfl⟩);simp only[exC,hd] at a0;refine UX ?_;intros;refine GPW.ent (L':=obj nb tNd [ax lb,ac sh,ac shs,ac cnt,ac hl,.map (some mb),.map (some mp),.map (some mr)]::ctP (ct0V 3 id 0 x.takes)::obj x.b tEx [ag x.lad x.legs.length x.lcap,ag x.gad x.givers.length x.gcap,ac x.until_,.map (some x.mv),.map (some x.mt),.bool true,.bool x.takes]::isl (encZ .i64) 1 x.gad x.givers::(gmap kvI bT x.mt (tfL x.told)::gmap kvI bT x.mv (tfL x.voted)::isl bA 5 x.lad x.legs::allP legP x.legs::L)) ((ct0_P (kind:=3) (id:=id) (index:=0) (yes:=x.takes)).trans ah) ?_;refine GPW.ca (a0) ?_;rintro _ _⟨ad,cap,ms,rfl,a2,rfl⟩;simp only[ndC];refine UX ?_;intros;refine KX.a8 aA ?_ ⟨ad,cap,ms,x,rfl,rfl,by rw[a2,hr],rfl⟩;simp only[exL,exC,hd];exact ah
 | false =>
  by_cases hu:x.until_<tick
  ·have a5 : tick>x.until_:=hu
   have hr:ga sh id x.m tick=(dl sh x.givers [] (ct0 3 id 0 false),x.m.decided false):=by
    unfold ga;rw[if_neg (by rw[show x.m.dec=false from hd];exact cS),if_pos (show x.m.until_<tick from hu)];rfl
   have a1:=rJ (L:=gmap kvI bT x.mt (tfL x.told)::gmap kvI bT x.mv (tfL x.voted)::isl bA 5 x.lad x.legs::allP legP x.legs::L) nb lb sh shs cnt hl mb mp mr id a4 x a3 false;simp only[exC,hd] at a1;refine UX ?_;intros;refine GO.ent (L':=obj nb tNd [ax lb,ac sh,ac shs,ac cnt,ac hl,.map (some mb),.map (some mp),.map (some mr)]::obj x.b tEx [ag x.lad x.legs.length x.lcap,ag x.gad x.givers.length x.gcap,ac x.until_,.map (some x.mv),.map (some x.mt),.bool false,.bool x.takes]::isl (encZ .i64) 1 x.gad x.givers::(gmap kvI bT x.mt (tfL x.told)::gmap kvI bT x.mv (tfL x.voted)::isl bA 5 x.lad x.legs::allP legP x.legs::L)) ah ?_;refine GO.ca (a1) ?_;rintro _ _⟨ad,cap,ms,rfl,a2,rfl⟩;simp only[ndC];refine UX ?_;intros;refine KX.a8 aA ?_ ⟨ad,cap,ms,{ x with dec:=true,takes:=false },rfl,rfl,by rw[a2,hr];rfl,rfl⟩;simp only[exL,exC];exact ah
  ·have a5 : ¬tick>x.until_:=hu
   have hr:ga sh id x.m tick=(dl sh x.givers x.voted (⟨1,id,0,false,x.legs,x.lad,x.lcap,[],none,0⟩:CtV).m,x.m):=by
    unfold ga;rw[if_neg (by rw[show x.m.dec=false from hd];exact cS),if_neg (show ¬x.m.until_<tick from hu)];rfl
   have a0:=mh (L:=gmap kvI bT x.mv (tfL x.voted)::gmap kvI bT x.mt (tfL x.told)::isl bA 5 x.lad x.legs::allP legP x.legs::L) nb lb sh shs cnt hl mb mp mr x a3 (⟨1,id,0,false,x.legs,x.lad,x.lcap,[],none,0⟩:CtV) ⟨⟨by unfold I64;dsimp only[CtV.m];omega,a4,by unfold I64;dsimp only[CtV.m];omega⟩,hx.legs,hx.lg,aw _,fun _ h=>absurd h ay⟩ (some x.mv) x.voted (.inr ⟨x.mv,_,rfl,rfl⟩);simp only[exC,hd] at a0;refine UX ?_;intros;refine GPW.ent (L':=obj nb tNd [ax lb,ac sh,ac shs,ac cnt,ac hl,.map (some mb),.map (some mp),.map (some mr)]::ctP (⟨1,id,0,false,x.legs,x.lad,x.lcap,[],none,0⟩:CtV)::obj x.b tEx [ag x.lad x.legs.length x.lcap,ag x.gad x.givers.length x.gcap,ac x.until_,.map (some x.mv),.map (some x.mt),.bool false,.bool x.takes]::isl (encZ .i64) 1 x.gad x.givers::(gmap kvI bT x.mv (tfL x.voted)::gmap kvI bT x.mt (tfL x.told)::isl bA 5 x.lad x.legs::allP legP x.legs::L)) (Ent.trans (B:=isl bA 5 x.lad x.legs::allP legP x.legs::obj nb tNd [ax lb,ac sh,ac shs,ac cnt,ac hl,.map (some mb),.map (some mp),.map (some mr)]::obj x.b tEx [ag x.lad x.legs.length x.lcap,ag x.gad x.givers.length x.gcap,ac x.until_,.map (some x.mv),.map (some x.mt),.bool false,.bool x.takes]::isl (encZ .i64) 1 x.gad x.givers::gmap kvI bT x.mv (tfL x.voted)::gmap kvI bT x.mt (tfL x.told)::L) ah ((EN (id:=id) (x:=x)).trans ah)) ?_;refine GPW.ca (a0) ?_;rintro _ _⟨ad,cap,ms,rfl,a2,rfl⟩;simp only[ndC];refine UX ?_;intros;refine KX.a8 aA ?_ ⟨ad,cap,ms,x,rfl,rfl,by rw[a2,hr],rfl⟩;simp only[exL,exC,hd];exact ah
end
section
open Go.V
def jR(N:NdM)(id:Int):Int:=match glk N.begun id with
 | some x=>if x.dec=false then 1 else if x.takes=true then 2 else 3
 | none=>match glk N.parts id with
  | some p=>if p.state=0 then 1 else if p.state=1 then 2 else 3
  | none=>if id∈N.recv.map (·.1) then 2 else 0
attribute [local irreducible] G GO GP GPW GPK GF GE Ev Ef EfR Ent CB GB V.Enters bX
def ro{L:LH}(nb lb:Nat)(sh shs:Int)(n:NdV)(id:Int) :
  Tri Tryz.prog 23 #[ax nb,ac id] (ndL nb lb sh shs n L) (rtQ (ac (jR n.m id)) (ndL nb lb sh shs n L)):=by
 refine Tri.bd ?_;simp only[ndL,ndC];refine G.c9 (fi (b:=n.mb)) fun hn=>?_;refine G.c9 (fi (b:=n.mp)) fun hm=>?_;refine G.c9 (fi (b:=n.mr)) fun hr=>?_;cases hg:List.lookup id n.begun with
 | some x =>
  have hl:glk n.m.begun id=some x.m:=by rw[gc,hg];rfl
  have hs:jR n.m id=if x.dec=false then 1 else if x.takes=true then 2 else 3:=by unfold jR;rw[hl];rfl
  have a0:=kw (nb:=nb) (lb:=lb) (sh:=sh) (shs:=shs) (L:=L) hn hg x rfl;rw[jz hg hn] at a0;simp only[ndL,ndC,exL,exC] at a0;rw[hs];refine G.ent (Ent.at (A:=bigO exF n.begun) (qz hn hg)) ?_;simp only[exL,exC];refine Ks ?_;intros;refine GO.ev (Ev.a8 rfl rfl) ae ?_;rw[hg];dsimp only[Option.map,Option.getD,Option.isSome,cJ];cases hd:x.dec with
  | false =>
   rw[hd] at a0;refine Ks ?_;intros;first|rw[show(!false)=true from rfl]|skip
   refine Ks ?_;intros;refine KX.a8 aA (Ent.trans ?_ a0) ⟨rfl,rfl⟩;exact ah
  | true =>
   rw[hd] at a0;cases ht:x.takes with
   | false =>
    rw[ht] at a0;refine Ks ?_;intros;refine KX.a8 aA (Ent.trans ?_ a0) ⟨rfl,rfl⟩;exact ah
   | true =>
    rw[ht] at a0;refine Ks ?_;intros;refine KX.a8 aA (Ent.trans ?_ a0) ⟨rfl,rfl⟩;exact ah
 | none =>
  have hl:glk n.m.begun id=none:=by rw[gc,hg];rfl
  cases hp:List.lookup id n.parts with
  | some p =>
   have a2:glk n.m.parts id=some p.m:=by rw[fK,hp];rfl
   have hs:jR n.m id=if p.state=0 then 1 else if p.state=1 then 2 else 3:=by unfold jR;rw[hl];dsimp only;rw[a2];rfl
   have a0:=jj (nb:=nb) (lb:=lb) (sh:=sh) (shs:=shs) (L:=L) hm hp p rfl;rw[jz hp hm] at a0;simp only[ndL,ndC,ptL,ptC] at a0;rw[hs];refine G.ent (Ent.at (A:=bigO ptF n.parts) (mU hm hp)) ?_;simp only[ptL,ptC];refine Ks ?_;intros;refine GO.ev (Ev.a8 rfl rfl) ae ?_;rw[hg];dsimp only[Option.map,Option.getD,Option.isSome];refine Ks ?_;intros;refine GO.ev (Ev.a8 rfl rfl) ae ?_;rw[hp];dsimp only[Option.map,Option.getD,Option.isSome,cL];by_cases h0:p.state=0
   ·rw[if_pos h0];refine Ks ?_;intros;refine KX.a8 aA (Ent.trans ?_ a0) ⟨rfl,rfl⟩;exact ah
   ·rw[if_neg h0];by_cases h1:p.state=1
    ·rw[if_pos h1];refine Ks ?_;intros;refine KX.a8 aA (Ent.trans ?_ a0) ⟨rfl,rfl⟩;exact ah
    ·rw[if_neg h1];refine Ks ?_;intros;refine KX.a8 aA (Ent.trans ?_ a0) ⟨rfl,rfl⟩;exact ah
  | none =>
   have a2:glk n.m.parts id=none:=by rw[fK,hp];rfl
   have hs:jR n.m id=if id∈n.recv.map (·.1) then 2 else 0:=by unfold jR;rw[hl];dsimp only;rw[a2];rfl
   refine Ks ?_;intros;refine GO.ev (Ev.a8 rfl rfl) ae ?_;rw[hg];dsimp only[Option.map,Option.getD,Option.isSome];refine Ks ?_;intros;refine GO.ev (Ev.a8 rfl rfl) ae ?_;rw[hp];dsimp only[Option.map,Option.getD,Option.isSome];refine Ks ?_;intros;refine GO.ef (Ef.j7 rfl) ae ?_;rintro _ _⟨r,rfl,rfl⟩;refine Ks ?_;intros;refine G.loop (α:=List ((Int×Int)×Bool)) (fun z=>z.length≤(tfK n.recv).length∧∀p∈z,p.1.1≠id) (fun z=>[(1,ac id),(53,ax r)]) (fun z=>gE kvP bT n.mr (tfK n.recv) r z::obj nb tNd [ax lb,ac sh,ac shs,ac n.cnt,ac n.hl,.map (some n.mb),.map (some n.mp),.map (some n.mr)]::gmap kvI cJ n.mb n.begun::bigO exF n.begun::gmap kvI cL n.mp n.parts::bigO ptF n.parts::L) (fun z=>(tfK n.recv).length - z.length) [] ⟨aw _,fun p h=>absurd h ay⟩ aC ah ?_;rintro z ⟨hz,a4⟩;refine Ks ?_;intros;refine GO.ef (Ef.k7 rfl) ae ?_;rintro _ _ (⟨rfl,rfl,a5⟩|⟨p,rfl,rfl,a6,a9,a7⟩)
   ·have h2:¬id∈n.recv.map (·.1):=fun q=>by
     obtain⟨k,hk,a1⟩:=List.mem_map.1 q;exact a4 (k,true) (a5.mem_iff.2 (List.mem_map.2 ⟨k,hk,rfl⟩)) a1
    rw[hs,if_neg h2];refine Ks ?_;intros;refine KX.a8 aA ?_ ⟨rfl,rfl⟩;refine(Ent.at (A:=gE kvP bT n.mr (tfK n.recv) r z) Ent.k7).trans ?_;exact ah
   refine Ks ?_;intros;refine GO.ev (Ev.j9 (done:=z) rfl rfl) ae ?_;by_cases a3:p.1.1=id
   ·have h2:id∈n.recv.map (·.1):=by
     obtain⟨k,hk,a1⟩:=List.mem_map.1 a6;exact List.mem_map.2 ⟨k,hk,by rw[←a3,←a1]⟩
    rw[hs,if_pos h2];refine Ks ?_;intros;refine KX.a8 aA ?_ ⟨rfl,rfl⟩;refine(Ent.at (A:=gE kvP bT n.mr (tfK n.recv) r (z++[p])) Ent.k7).trans ?_;exact ah
   ·refine Ks ?_;intros;refine⟨z++[p],⟨by simp;omega,fun q hq=>?_⟩,by simp;omega,aC,by exact ah⟩;rcases List.mem_append.1 hq with hq|hq
    ·exact a4 q hq
    ·rw[List.mem_singleton.1 hq];exact a3
end
section
open Go.V
attribute [local irreducible] G GO GP GPW GPK GF GE Ev Ef EfR Ent CB GB V.Enters bX
def xX{L:LH}(o:OwV):Tri Tryz.prog 128 #[aU (dH o)] L (rtQ (.bool (dB (¬o.state=2))) L):=by
 refine Tri.bd ?_;refine Ks ?_;intros;exact KX.en ⟨rfl,rfl⟩
def ye{L:LH}(ad:OA)(n c:Nat)(os:List OwV)[hrd:Rds L ad OwV dH 8 os](hn:n=os.length)(hl:os.length≤1000) :
  Tri Tryz.prog 186 #[ag ad n c,.func (.func 128) #[] #[]] L (fun v L'=>∃k:Int,v=ac k∧(0≤k↔∃o∈os,¬o.state=2)∧L' = L):=by
 subst hn;refine Tri.bd ?_;refine Ks ?_;intros;refine G.loop (α:=Nat) (fun i=>i≤os.length∧∀o∈os.take i,o.state=2) (fun i=>[(0,ag ad os.length c),(1,.func (.func 128) #[] #[]),(7,ac (os.length:Int)),(8,ac (i:Int))]) (fun i=>L) (fun i=>os.length - i) 0 ⟨aw _,fun o h=>absurd h (by rw[aR];exact ay)⟩ aC (Ent.refl _) ?_;rintro i ⟨hi,ha⟩;by_cases a0:i<os.length
 case neg =>
  rw[aD ab] at ha;refine Ks ?_;intros;refine KX.a8 aA (Ent.refl _) ⟨-1,rfl,⟨fun h=>absurd h ae,fun⟨o,ho,h⟩=>absurd (ha o ho) h⟩,rfl⟩
 have a2:(i:Int).toNat=i:=ab;have a1:os[i]!∈os:=by rw[getElem!_of a0];exact bR a0
 refine Ks ?_;intros;rw[a2];refine GO.ef (Ef.c8 (first:=[]) (cap:=[]) (vs:=[aU (dH os[i]!)]) (xX os[i]!) rfl rfl) ae ?_;rintro _ _⟨rfl,rfl⟩;by_cases hs:os[i]!.state=2
 ·refine Ks ?_;intros;refine⟨i+1,⟨ab,fun o ho=>?_⟩,ab,?_,Ent.refl _⟩
  ·rw[az a0] at ho;rcases List.mem_append.1 ho with ho|ho
   ·exact ha o ho
   ·rw[List.mem_singleton.1 ho,←getElem!_of a0];exact hs
  ·rw[bh i];exact aC
 ·refine Ks ?_;intros;refine KX.a8 aA (Ent.refl _) ⟨(i:Int),rfl,⟨fun _=>⟨os[i]!,a1,hs⟩,fun _=>by omega⟩,rfl⟩
def nO{L:LH}(ad:OA)(n c:Nat)(os:List OwV)[hrd:Rds L ad OwV dH 8 os](hn:n=os.length)(hl:os.length≤1000) :
  Tri Tryz.prog 127 #[ag ad n c,.func (.func 128) #[] #[]] L (fun v L'=>v=.bool (dB (∃o∈os,¬o.state=2))∧L' = L):=by
 refine Tri.bd ?_;refine Ks ?_;intros;refine GO.ca (ye ad n c os hn hl) ?_;rintro _ _⟨k,rfl,hk,rfl⟩;refine Ks ?_;intros;refine KX.a8 aA (Ent.refl _) ⟨?_,rfl⟩;refine congrArg Value.bool ?_;rw[dK,dK];exact decide_eq_decide.2 hk
end
section
open Go.V
def gq(N:NdM)(id:Int):Bool :=
 (match glk N.begun id with
  | some x=>!x.dec || dB (x.told.length<x.givers.length)
  | none=>false) ||
 (match glk N.parts id with
  | some p=>dB (p.state=0) || dB (∃o∈p.legs,¬o.state=2)
  | none=>false)
attribute [local irreducible] G GO GP GPW GPK GF GE Ev Ef EfR Ent CB GB V.Enters bX
abbrev Da:=XF [.ev 17,.ev 18,.ev 19,.ev 20]
def Vd{φ ψ:Prop}(k:ψ)(h:Hid ψ→φ:=by intro k;(repeat (first|refine aa ?_|intro zzz|refine G.dr 62 2 Da ?_));(repeat revert zzz);exact Hid.out k):φ:=h ⟨k⟩
def AG{L:LH}(nb lb:Nat)(sh shs:Int)(n:NdV)(id:Int)(a6:∀p∈n.parts,p.2.legs.length≤1000) :
  Tri Tryz.prog 66 #[ax nb,ac id] (ndL nb lb sh shs n L) (rtQ (.bool (gq n.m id)) (ndL nb lb sh shs n L)):=by
 refine Tri.bd ?_;simp only[ndL,ndC];refine G.c9 (fi (b:=n.mb)) fun hn=>?_;refine G.c9 (fi (b:=n.mp)) fun hm=>?_;cases hg:List.lookup id n.begun with
 | none =>
  have hl:glk n.m.begun id=none:=by rw[gc,hg];rfl
  have a1:=Ent.refl (ndL nb lb sh shs n L);simp only[ndL,ndC] at a1;cases hp:List.lookup id n.parts with
  | none =>
   have a2:glk n.m.parts id=none:=by rw[fK,hp];rfl
   have hs:gq n.m id=false:=by
    unfold gq;rw[hl,a2];rfl
   rw[hs];refine Vd ?_;intros;refine GO.ev (Ev.a8 rfl rfl) ae ?_;rw[hg];dsimp only[Option.map,Option.getD,Option.isSome];refine Vd ?_;intros;refine GO.ev (Ev.a8 rfl rfl) ae ?_;rw[hp];dsimp only[Option.map,Option.getD,Option.isSome];refine Vd ?_;intros;refine KX.a8 aA ?_ ⟨rfl,rfl⟩;exact ah
  | some p =>
   have a2:glk n.m.parts id=some p.m:=by rw[fK,hp];rfl
   have a3:=a6 _ (cu hp)
   have hs:gq n.m id=(dB (p.state=0) || dB (∃o∈p.m.legs,¬o.state=2)):=by
    unfold gq;rw[hl,a2];rfl
   have hex:dB (∃o∈p.m.legs,¬o.state=2)=dB (∃o∈p.legs,¬o.state=2):=by
    rw[dK,dK];refine decide_eq_decide.2 ⟨fun⟨o,ho,h⟩=>?_,fun⟨o,ho,h⟩=>⟨o.m,alStd0List_mem_map_of_mem ho,h⟩⟩;obtain⟨v,hv,rfl⟩:=List.mem_map.1 ho;exact⟨v,hv,h⟩
   have a0:=jj (nb:=nb) (lb:=lb) (sh:=sh) (shs:=shs) (L:=L) hm hp p rfl;rw[jz hp hm] at a0;simp only[ndL,ndC,ptL,ptC] at a0;rw[hs,hex];refine G.ent (Ent.at (A:=bigO ptF n.parts) (mU hm hp)) ?_;simp only[ptL,ptC];by_cases hz:p.state=0
   ·rw[bE hz,Bool.true_or];refine Vd ?_;intros;refine GO.ev (Ev.a8 rfl rfl) ae ?_;rw[hg];dsimp only[Option.map,Option.getD,Option.isSome];refine Vd ?_;intros;refine GO.ev (Ev.a8 rfl rfl) ae ?_;rw[hp];dsimp only[Option.map,Option.getD,Option.isSome,cL];refine Vd ?_;intros;refine KX.a8 aA (Ent.trans ?_ a0) ⟨rfl,rfl⟩;exact ah
   ·rw[aW hz,Bool.false_or];refine Vd ?_;intros;refine GO.ev (Ev.a8 rfl rfl) ae ?_;rw[hg];dsimp only[Option.map,Option.getD,Option.isSome];refine Vd ?_;intros;refine GO.ev (Ev.a8 rfl rfl) ae ?_;rw[hp];dsimp only[Option.map,Option.getD,Option.isSome,cL];refine Vd ?_;intros;refine GO.cr (nO p.lad p.legs.length p.lcap p.legs rfl a3) ?_;refine Vd ?_;intros;refine KX.a8 aA (Ent.trans ?_ a0) ⟨rfl,rfl⟩;exact ah
 | some x =>
  have hl:glk n.m.begun id=some x.m:=by rw[gc,hg];rfl
  have a1:=kw (nb:=nb) (lb:=lb) (sh:=sh) (shs:=shs) (L:=L) hn hg x rfl;rw[jz hg hn] at a1;simp only[ndL,ndC,exL,exC] at a1;refine G.ent (Ent.at (A:=bigO exF n.begun) (qz hn hg)) ?_;simp only[exL,exC];cases hd:x.dec with
  | false =>
   rw[hd] at a1
   have hs:gq n.m id=true:=by
    unfold gq;rw[hl];simp[show x.m.dec=false from hd]
   rw[hs];refine Vd ?_;intros;refine GO.ev (Ev.a8 rfl rfl) ae ?_;rw[hg];dsimp only[Option.map,Option.getD,Option.isSome,cJ];refine Vd ?_;intros;refine KX.a8 aA (Ent.trans ?_ a1) ⟨rfl,rfl⟩;exact ah
  | true =>
   rw[hd] at a1
   have hX:∀M:LH,Ent (gmap kvI cJ n.mb n.begun::exL x (bigO exF (gera n.begun id)::M)) (gmap kvI cJ n.mb n.begun::bigO exF n.begun::M):=fun M=>by
    have h:=uI (L:=M) hn hg x rfl;rw[jz hg hn] at h;exact h
   simp only[exL,exC,hd] at hX;by_cases a4:x.told.length<x.givers.length
   ·have a5 : (x.told.length:Int)<(x.givers.length:Int):=ab
    have hs:gq n.m id=true:=by
     unfold gq;rw[hl];simp[show x.m.dec=true from hd,bE (show x.m.told.length<x.m.givers.length from a4)]
    rw[hs];refine Vd ?_;intros;refine GO.ev (Ev.a8 rfl rfl) ae ?_;rw[hg];dsimp only[Option.map,Option.getD,Option.isSome,cJ];refine Vd ?_;intros;refine GPW.evL (Ev.lenG rfl) ae ?_;rw[ob];refine Vd ?_;intros;refine KX.a8 aA (Ent.trans ?_ a1) ⟨rfl,rfl⟩;exact ah
   ·have a5 : ¬(x.told.length:Int)<(x.givers.length:Int):=ab;cases hp:List.lookup id n.parts with
    | none =>
     have a2:glk n.m.parts id=none:=by rw[fK,hp];rfl
     have hs:gq n.m id=false:=by
      unfold gq;rw[hl,a2];dsimp only;rw[show x.m.dec=true from hd,aW (show ¬x.m.told.length<x.m.givers.length from a4)];rfl
     rw[hs];refine Vd ?_;intros;refine GO.ev (Ev.a8 rfl rfl) ae ?_;rw[hg];dsimp only[Option.map,Option.getD,Option.isSome,cJ];refine Vd ?_;intros;refine GPW.evL (Ev.lenG rfl) ae ?_;rw[ob];refine Vd ?_;intros;refine GO.ent (Ent.trans ?_ (hX (obj nb tNd [ax lb,ac sh,ac shs,ac n.cnt,ac n.hl,.map (some n.mb),.map (some n.mp),.map (some n.mr)]::gmap kvI cL n.mp n.parts::bigO ptF n.parts::gmap kvP bT n.mr (tfK n.recv)::L))) ?_
     ·exact ah
     refine GO.ev (Ev.a8 rfl rfl) ae ?_;rw[hp];dsimp only[Option.map,Option.getD,Option.isSome];refine Vd ?_;intros;refine KX.a8 aA ?_ ⟨rfl,rfl⟩;exact ah
    | some p =>
     have a2:glk n.m.parts id=some p.m:=by rw[fK,hp];rfl
     have a3:=a6 _ (cu hp)
     have hs:gq n.m id=(dB (p.state=0) || dB (∃o∈p.m.legs,¬o.state=2)):=by
      unfold gq;rw[hl,a2];dsimp only;rw[show x.m.dec=true from hd,aW (show ¬x.m.told.length<x.m.givers.length from a4)];rfl
     have hex:dB (∃o∈p.m.legs,¬o.state=2)=dB (∃o∈p.legs,¬o.state=2):=by
      rw[dK,dK];refine decide_eq_decide.2 ⟨fun⟨o,ho,h⟩=>?_,fun⟨o,ho,h⟩=>⟨o.m,alStd0List_mem_map_of_mem ho,h⟩⟩;obtain⟨v,hv,rfl⟩:=List.mem_map.1 ho;exact⟨v,hv,h⟩
     have a0:=jj (nb:=nb) (lb:=lb) (sh:=sh) (shs:=shs) (L:=L) hm hp p rfl;rw[jz hp hm] at a0;simp only[ndL,ndC,ptL,ptC] at a0;rw[hs,hex];refine G.ent (Ent.at (A:=bigO ptF n.parts) (mU hm hp)) ?_;simp only[ptL,ptC];by_cases hz:p.state=0
     ·rw[bE hz,Bool.true_or];refine Vd ?_;intros;refine GO.ev (Ev.a8 rfl rfl) ae ?_;rw[hg];dsimp only[Option.map,Option.getD,Option.isSome,cJ];refine Vd ?_;intros;refine GPW.evL (Ev.lenG rfl) ae ?_;rw[ob];refine Vd ?_;intros;refine GO.ent (Ent.trans ?_ (hX (obj nb tNd [ax lb,ac sh,ac shs,ac n.cnt,ac n.hl,.map (some n.mb),.map (some n.mp),.map (some n.mr)]::gmap kvI cL n.mp n.parts::obj p.b tPt [ac p.state,ac p.hold,ag p.lad p.legs.length p.lcap]::osl dH 8 tOw p.lad p.lcap p.legs::allP owP p.legs::bigO ptF (gera n.parts id)::gmap kvP bT n.mr (tfK n.recv)::L))) ?_
      ·exact ah
      refine GO.ev (Ev.a8 rfl rfl) ae ?_;rw[hp];dsimp only[Option.map,Option.getD,Option.isSome,cL];refine Vd ?_;intros;refine KX.a8 aA (Ent.trans ?_ a0) ⟨rfl,rfl⟩;exact ah
     ·rw[aW hz,Bool.false_or];refine Vd ?_;intros;refine GO.ev (Ev.a8 rfl rfl) ae ?_;rw[hg];dsimp only[Option.map,Option.getD,Option.isSome,cJ];refine Vd ?_;intros;refine GPW.evL (Ev.lenG rfl) ae ?_;rw[ob];refine Vd ?_;intros;refine GO.ent (Ent.trans ?_ (hX (obj nb tNd [ax lb,ac sh,ac shs,ac n.cnt,ac n.hl,.map (some n.mb),.map (some n.mp),.map (some n.mr)]::gmap kvI cL n.mp n.parts::obj p.b tPt [ac p.state,ac p.hold,ag p.lad p.legs.length p.lcap]::osl dH 8 tOw p.lad p.lcap p.legs::allP owP p.legs::bigO ptF (gera n.parts id)::gmap kvP bT n.mr (tfK n.recv)::L))) ?_
      ·exact ah
      refine GO.ev (Ev.a8 rfl rfl) ae ?_;rw[hp];dsimp only[Option.map,Option.getD,Option.isSome,cL];refine Vd ?_;intros;refine GO.cr (nO p.lad p.legs.length p.lcap p.legs rfl a3) ?_;refine Vd ?_;intros;refine KX.a8 aA (Ent.trans ?_ a0) ⟨rfl,rfl⟩;exact ah
