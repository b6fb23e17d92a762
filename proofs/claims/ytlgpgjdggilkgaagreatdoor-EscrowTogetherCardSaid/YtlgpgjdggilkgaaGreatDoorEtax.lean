/- Lemmas. -/
import Derived.Test.YtlgpgjdggilkgaaGreatDoorEtaw
import Derived.Laws.CopyRow
set_option linter.all false
set_option maxHeartbeats 4000000
namespace Go.Proofs.YtlgpgjdggilkgaaGreatDoor
open Go.V
attribute [local irreducible] Α GO GP δ ms GF GE Ev Ef C0 F CB GB V.Enters
def V2(f t i n:Int):J3:=⟨⟨f,t,i,n,[]⟩,none,0⟩
def NM(f t:Int)(am:List (Int×Int)):List J3:=am.map λa=>V2 f t a.1 a.2
def jB{L:Η}(ad:OA)(n c:Nat)(am:List (Int×Int))[hrd:F2 L ad (Int×Int) dZ 2 am](hn:n=am.length)(U:am.length<=1000)(f t:Int) :
  Τ Θ 147 #[ah ad n c,J f,J t] L (λv Γ=>∃fH iI,v=ah fH (NM f t am).length iI/\Γ = Ω cu 5 OY fH iI (NM f t am)::L):=by
 subst hn;refine Τ.bd ?_;refine Nd ?_;intros;refine Α.loop (α:=Nat×OA×Nat) (λg=>g.1<=am.length) (λg=>[(1,J f),(2,J t),(7,ah g.2.1 (NM f t (am.take g.1)).length g.2.2),(10,ah ad am.length c),(11,J (am.length:Int)),(12,J (g.1:Int))]) (λg=>Ω cu 5 OY g.2.1 g.2.2 (NM f t (am.take g.1))::L) (λg=>am.length - g.1) (0,none,0) (aC _) aD (by dsimp only;rw[bj];exact F.c8 cu 5 OY) ?_;rintro⟨i,fH,iI⟩ hi;dsimp only at hi ⊢;have a5:(NM f t (am.take i)).length=i:=by unfold NM;rw[al,aP];omega
 by_cases M:i<am.length
 case neg =>
  rw[aM D];refine Nd ?_;intros;exact KX.en ⟨fH,iI,rfl,rfl⟩
 have a3:(i:Int).toNat=i:=D
 have a4:NM f t (am.take (i+1))=NM f t (am.take i)++[V2 f t am[i]!.1 am[i]!.2]:=by
  unfold NM;rw[aB M,aQ,D7 M];rfl
 refine Nd ?_;intros;rw[a3];refine GO.ef (Ef.a8 (Ε:=cu) (e:=V2 f t am[i]!.1 am[i]!.2) rfl rfl rfl rfl rfl bh (mO _) D D) ae ?_;rintro _ _⟨a2,B,rfl,rfl⟩;rw[<-a4];refine Nd ?_;intros;refine⟨(i+1,a2,B),by dsimp only;omega,by dsimp only;omega,?_,by exact ak⟩;dsimp only;rw[bC i];exact aD
def vD{L:Η}(b:Nat)(S:Ρ) :
  Τ Θ 202 #[av b] (aU b S::L) (F3 (J (S.Κ.length:Int)) (aU b S::L)):=by
 refine Τ.bd ?_;refine Α.c9 (f:=jY b S) ?_;intro x;simp only[jY,E1,au,ax];refine Α.d7 ?_;intro hF;have B:x.Κ.length=S.Κ.length:=by rw[<-hF.Κ];simp
 simp only[cJ];refine Nd ?_;intros;exact KX.a8 aF (jf x hF) ⟨by rw[<-B];rfl,rfl⟩
def zZ{L:Η}(ad:OA)(c:Nat)(Q:List Pv)[hrd:F2 L ad Pv ft 11 Q](hA:∀f∈Q,F L (Pm f::L))(U:Q.length<=100000)(hp:∀m∈Q,m.m.Β.length<=1000000/\m.m.made.length<=1000000) :
  Τ Θ 52 #[ah ad Q.length c,.func (.func 53) #[] #[]] L (λv Γ=>∃a3 c' M,v=ah a3 M.length c'/\M.map (·.m)=Q.map (·.m)/\Γ = Ω ft 11 gX a3 c' M::ey Tt M::L):=by
 refine Τ.bd ?_;by_cases h0:Q.length=0
 .have e:Q=[]:=cd h0;subst e;refine Nd ?_;intros;exact KX.a8 aF ((F.j5 Tt).trans (F.c8 ft 11 gX)) ⟨none,0,[],rfl,rfl,rfl⟩
 refine Nd ?_;intros;refine GO.ef (Ef.j5 ft ON rfl rfl rfl D D D D) ae ?_;rintro _ _⟨bs,rfl,rfl⟩;rw[show(Q.length:Int).toNat=Q.length by omega];refine Nd ?_;intros
 refine Α.loop (α:=Nat×List Pv) (λz=>z.1<=Q.length/\z.2.length=Q.length/\(z.2.take z.1).map (·.m)=(Q.take z.1).map (·.m)) (λz=>[(1,.func (.func 53) #[] #[]),(5,ah (some ⟨bs,0,none⟩) Q.length Q.length),(14,ah ad Q.length c),(15,J (Q.length:Int)),(16,J (z.1:Int))])
  (λz=>Ω ft 11 gX (some ⟨bs,0,none⟩) Q.length z.2::ey Tt (z.2.take z.1)::L) (λz=>Q.length - z.1) (0,List.replicate Q.length ON) ⟨aC _,by simp,by simp⟩ aD ?_ ?_
 .dsimp only;rw[bj];refine(F.j5 Tt).trans ?_;exact ak
 rintro⟨i,zs⟩ ⟨hi,a7,B⟩;dsimp only at hi a7 B ⊢;by_cases a2:i<Q.length
 case neg =>
  have a9:i=Q.length:=D;subst a9;rw[aM D,aM D] at B;rw[aM (D:zs.length<=Q.length)];refine Nd ?_;intros;refine KX.a8 aF (F.refl _) ⟨some ⟨bs,0,none⟩,Q.length,zs,by rw[a7];rfl,B,rfl⟩
 have a4:(i:Int).toNat=i:=D;have a5:Q[i]!∈Q:=bA a2;have a6:=hp _ a5;refine Nd ?_;intros;rw[a4];refine GO.cL (F.under (Ο:=[_,_,_]) (hA _ a5)) ?_;simp only[au,ax];refine GO.ef (Ef.f5 rfl rfl (Ah Q[i]! a6.1 a6.2)) ae ?_;rintro _ _⟨m',rfl,b0,rfl⟩;refine Nd ?_;intros;refine GO.NH (Ef.k7 (e:=m') rfl rfl bh bh (oh _) D) ?_;rintro _ _ rfl;rw[a4];refine Nd ?_;intros;refine⟨(i+1,zs.set i m'),⟨by dsimp only;omega,by dsimp only;simp;omega,?_⟩,by dsimp only;omega,?_,?_⟩
 .dsimp only;rw[iP D,aB a2,aQ,aQ,B,<-D7 a2];simp[b0]
 .dsimp only;rw[bC i];exact aD
 .dsimp only;rw[iP D];refine F.c7 ?_;refine F.trans (fG:=Tt m'::ey Tt (zs.take i)::L) ak ?_;exact F.Wl
abbrev BA:=Zd [.ef 13,.ev 14]
def Tg{φ ψ:Prop}(k:ψ)(h:Hid ψ->φ:=by intro k;(repeat (first|refine ab ?_|intro B6|refine Α.dr 19 1 BA ?_));(repeat revert B6);exact Hid.out k):φ:=h ⟨k⟩
def vC{L:Η}(b:Nat)(S:Ρ)(k:Nat)(hk:k<=S.Κ.length)(hS:∀f∈S.Κ.drop k,f.Β.length<=1000000/\f.made.length<=1000000)(U:S.Κ.length<=k+100000) :
  Τ Θ 203 #[av b,J (k:Int)] (aU b S::L) (λv Γ=>∃ad cap fs,v=ah ad fs.length cap/\fs.map Pv.m=S.Κ.drop k/\Γ = Ω ft 11 gX ad cap fs::ey Tt fs::aU b S::L):=by
 refine Τ.bd ?_;refine Α.c9 (f:=jY b S) ?_;intro x;simp only[jY,E1,au,ax];refine Α.d7 ?_;intro hF;have a6:x.Κ.length=S.Κ.length:=by rw[<-hF.Κ];simp
 have a2:(x.Κ.drop k).map Pv.m=S.Κ.drop k:=by rw[<-hF.Κ,List.map_drop]
 refine Α.c8 (Ls (ad:=x.C3) (cap:=x.F1) (I:=x.Κ) (Ε:=ft) (sz:=11) (η:=gX)) ?_;rintro⟨a4,_⟩;have a3:(max 0 (min (k:Int) (x.Κ.length:Int))).toNat=k:=D
 have hE:∀ε:Η,Τ Θ 52 #[ah (N2 x.C3 x.F1 11 (max 0 (min (k:Int) (x.Κ.length:Int))).toNat) (x.Κ.length - (max 0 (min (k:Int) (x.Κ.length:Int))).toNat) (x.F1 - (max 0 (min (k:Int) (x.Κ.length:Int))).toNat),.func (.func 53) #[] #[]] (PR ft 11 gX x.C3 x.F1 x.Κ::Ψ Pm x.Κ::ε) (λv Γ=>∃M c' B,v=ah M B.length c'/\B.map (·.m)=(x.Κ.drop k).map (·.m)/\Γ = Ω ft 11 gX M c' B::ey Tt B::PR ft 11 gX x.C3 x.F1 x.Κ::Ψ Pm x.Κ::ε):=λε=>by
  rw[a3];have h:=zZ (L:=PR ft 11 gX x.C3 x.F1 x.Κ::Ψ Pm x.Κ::ε) (N2 x.C3 x.F1 11 k) (x.F1 - k) (x.Κ.drop k) (hrd:=F2.drop inferInstance a4 k) (λf hf=>(F.at (Ο:=Ψ Pm x.Κ) (F.d8 (f:=Pm) (eM hf))).trans ak) (by rw[cB];omega) (λf hf=>hS f.m (by rw[<-a2];exact PB hf));rw[cB] at h;exact h
 simp only[cJ];refine Tg ?_;intros;refine δ.cL (F.at (Ο:=PR ft 11 gX x.C3 x.F1 x.Κ) (F.c7 (F.at (Ο:=Ψ Pm x.Κ) (F.refl _)))) ?_;refine δ.ca (hE _) ?_;rintro _ _⟨ad,cap,fs,rfl,a5,rfl⟩;refine Tg ?_;intros;refine KX.a8 aF ?_ ⟨ad,cap,fs,rfl,a5.trans a2,rfl⟩;refine F.trans ?_ (F.c7 (F.c7 (jf x hF)));simp only[E1,cJ];exact ak
end Go.Proofs.YtlgpgjdggilkgaaGreatDoor
namespace Go.V
section
section fv
variable {P:Program}{N:Nat}{env:Env}{L:Η}{Ξ:F4}{ty:TypeId}
end fv
end
section
section
variable {P:Program}{env:Env}{L:Η}{ty:TypeId}
theorem Ef.l8{t:TypeId}{x:Operand}{α:Type}{Ε:α->τ}{ad:OA}{n c i sz η bb cap:Nat}{I:List α}{z:τ}{R1:Η}[ht:M7 P t η sz bb z][hp:Se L ad α Ε sz η cap I R1]
  (O:cq env x=some (.slice (N2 ad cap sz i) n c)) (hi:i+n=I.length) (K:∀u∈z,u.oneCell' = true)
  : Ef P L env (.call { callee:=.builtin .clear,args:=#[x],argTypes:=#[t] }) ty (λv Γ=>v=.tuple #[]/\Γ = Ω Ε sz η ad cap (I.take i)::R1) :=
 Ef.val (λθ R a w ea s b3 pos af g=>by
  have s1:=s.perm (hp.perm.append_right R);obtain⟨ii,z0,i1,i2,i3,i4,i5⟩:=ht.Β;have M:Sat θ (Ω Ε sz η ad cap (I.take i)::R1++R) w:=F.m7 i θ R w s1;by_cases hn:n=0
  .subst hn;refine⟨.tuple #[],w,_,?_,⟨rfl,rfl⟩,M⟩;cases hd:N2 ad cap sz i with
   | none=>rw[hd] at O;simp[execOp,resolve,invoke,builtin,aJ ea O,Builtin.clear_,run_underlying ht.under]
   | some Μ=>rw[hd] at O;simp[execOp,resolve,invoke,builtin,aJ ea O,Builtin.clear_,run_underlying ht.under]
  obtain⟨p1,p2,p3,p4⟩:=Sat.QY s1;rcases p4 with⟨rfl,rfl⟩|⟨gb,B,rfl,f1,f2,f3⟩
  .omega
  have hb:w.heap[gb]? = some (.cells B η (0,0)):=f3.Nr;have a7:=bR sz p2
  have a6:N2 (some ⟨gb,0,none⟩) cap sz i=some ⟨gb,i*sz,none⟩:=by
   unfold N2;rw[Ν D];simp[fT]
  rw[a6] at O;have a5:z0.cells.size=sz:=by rw[<-ht.TJ,<-i3];simp
  obtain⟨vs,a3⟩:∃vs,vs=(Builtin.zeroCells z0.cells n).toList:=⟨_,rfl⟩;have b5:vs.length=n*sz:=by rw[a3,ec,size_zeroCells,a5]
  have b2:∀u∈vs,u.oneCell' = true:=by
   intro u hu;rw[a3] at hu;simp only[Builtin.zeroCells,Array.toList_map,List.mem_map,Array.toList_range,List.mem_range] at hu;obtain⟨k,hk,rfl⟩:=hu;have a2:0<z0.cells.size:=by rw[a5];exact ht.pos
   have b0:k % z0.cells.size<z0.cells.size:=dX _ a2;refine K _ ?_;rw[<-i3,getElem!_pos z0.cells _ b0];exact aj
  have b1:i*sz+n*sz=I.length*sz:=by rw[<-dY,hi]
  have a4:=run_storeCells_at P gb (i*sz) η vs 0 B w hb D b2;simp only[dx] at a4;refine⟨.tuple #[],w.setRow gb (B.toList.take (i*sz)++vs++B.toList.drop (i*sz+vs.length)).toArray,_,?_,⟨rfl,rfl⟩,?_⟩
  .obtain⟨m,rfl⟩:∃m,n=m+1:=⟨n - 1,D⟩;simp[execOp,resolve,invoke,builtin,aJ ea O,Builtin.clear_,run_underlying ht.under,zeroValue,typeInfo,i1,i2,<-a3,a4]
  .have s3:Sat θ (jC gb (.cells (B.toList.take (i*sz)++vs++B.toList.drop (i*sz+vs.length)).toArray η (0,0))::(R1++R)) (w.setRow gb (B.toList.take (i*sz)++vs++B.toList.drop (i*sz+vs.length)).toArray) :=
    Sat.update f3 ⟨s.1.tape,s.1.os,s.1.output,s.1.drawn⟩ (setRow_heap w gb _ _ η _ hb) (by grind [setRow_other])
   have b4:(I.take i).length=i:=by rw[aP];omega
   refine Sat.RO (L:=R1++R) s3 aj D p3 ?_ ?_
   .simp;omega
   .have a9:=db (I:=I.take i) (λx O=>p1 x (cp O));grind [cK])
end
end
end Go.V
namespace Go.Proofs.YtlgpgjdggilkgaaGreatDoor
section
open Go.V
attribute [local irreducible] Α GO GP δ ms GF GE Ev Ef C0 F CB GB V.Enters
end
section
open Go.V
attribute [local irreducible] Α GO GP δ ms Ev Ef C0 F CB GB V.Enters
end
section
open Go.V
abbrev C4:Nat:=147
structure Oc (d:Int) (c:B0) (k:Nat) (S:Ρ):Prop where
 rep:P5 d c S
 a:SZ k S
 now:0<=S.now
 π:S.π=c
 ok:c.Ok
 d:S.D8=d
def Hb(S:Ρ)(s:D6):(bM S s).D8=S.D8:=by
 unfold bM;split
 .rfl
 .rfl
def Oc.post{d:Int}{c:B0}{k:Nat}{S:Ρ}(h:Oc d c k S)(s:D6)(hk:k+C5 s.fe<=2000):Oc d c (k+C5 s.fe) (bM S s):=by
 have hA:=(CT (s:=s) h.a hk).1;by_cases q:(E2 S s).1=0
 .have e:bM S s=fC S s:=Χ q;exact⟨.post h.rep q,hA,by rw[e];exact GZ (jg q) h.now,(wE _ _).trans h.π,h.ok,(Hb _ _).trans h.d⟩
 .have e:bM S s=S:=Ν q;rw[e] at hA ⊢;exact⟨h.rep,hA,h.now,h.π,h.ok,h.d⟩
def gL(lb:Nat)(d G μ U:Int)(mb mp mr:Nat):τ:=[av lb,J d,J G,J μ,J U,.map (some mb),.map (some mp),.map (some mr)]
def Od(Δ E:Int)(Q:List J3)(fH:OA)(iI:Nat):M0:=⟨0,Δ,0,E,-1,0,Q,fH,iI⟩
noncomputable def km(S:Ρ)(s:D6):List Int:=((bM S s).Κ.drop S.Κ.length).map (·.A)
attribute [local irreducible] Α GO GP δ ms GF GE Ev Ef C0 F CB GB V.Enters
abbrev Bz:=YZ [.ev 4,.ef 5,.ev 6,.ev 7,.ev 8,.ev 9,.ev 10]
def Tj{φ ψ:Prop}(k:ψ)(h:Hid ψ->φ:=by intro k;(repeat (first|refine ab ?_|intro B6|refine Α.dr 55 3 Bz ?_));(repeat revert B6);exact Hid.out k):φ:=h ⟨k⟩
theorem ur{L:Η}(nb lb:Nat)(d G μ U:Int)(mb mp mr:Nat)(c:B0)(k:Nat)(S:Ρ)(hS:Oc d c k S)(Δ E:Int)(Q:List J3)(fH:OA)(iI:Nat)(hs:Sl (Od Δ E Q fH iI))(a4:Q.length<=iI)(hk:k+C5 (Q.map J3.m)<=2000) :
  Τ Θ 146 #[av nb,J Δ,J E,ah fH Q.length iI] (obj nb C4 (gL lb d G μ U mb mp mr)::aU lb S::stM (Od Δ E Q fH iI)::Nu (Od Δ E Q fH iI)::L) (λv Γ =>
   ((E2 S (Od Δ E Q fH iI).m).1=0/\∃C3 F1,v=.tuple #[ah C3 (km S (Od Δ E Q fH iI).m).length F1,.bool true]/\Γ = Ω (dJ .i64) 1 B7 C3 F1 (km S (Od Δ E Q fH iI).m)::obj nb C4 (gL lb d G μ U mb mp mr)::aU lb (bM S (Od Δ E Q fH iI).m)::stM (Od Δ E Q fH iI)::Nu (Od Δ E Q fH iI)::L) \/
   ((E2 S (Od Δ E Q fH iI).m).1≠0/\v=.tuple #[ah none 0 0,.bool false]/\Γ = obj nb C4 (gL lb d G μ U mb mp mr)::aU lb S::stM (Od Δ E Q fH iI)::Nu (Od Δ E Q fH iI)::L)):=by
 have b3:S.π.Ok:=by rw[hS.π];exact hS.ok
 have c5:=hS.a.g.Κ;have d0:=hS.a.g.D9;have B:=λε:Η=>kZ (L:=ε) lb S k hS.a b3 hS.now (Od Δ E Q fH iI) hs a4 hk tW;have a7:=hS.post (Od Δ E Q fH iI).m hk;have c3:=sr S (Od Δ E Q fH iI).m;have a5:=λh:(E2 S (Od Δ E Q fH iI).m).1=0=>(tw (s:=(Od Δ E Q fH iI).m) hS.a hk h).2;have c1:(E2 S (Od Δ E Q fH iI).m).1≠0->bM S (Od Δ E Q fH iI).m=S:=λh=>Ν h;have M:(E2 S (Od Δ E Q fH iI).m).1=0->(bM S (Od Δ E Q fH iI).m).Κ=S.Κ++(E2 S (Od Δ E Q fH iI).m).2.Κ:=by grind [bM,fC]
 refine Τ.bd ?_;simp only[gL];refine Tj ?_;intros;generalize Zx:Od Δ E Q fH iI=s at *;have b1:eK s=[J 0,J Δ,J 0,J E,J (-1),J 0,ah fH Q.length iI]:=by rw[<-Zx];rfl
 refine GO.cL (Γ:=aU lb S::(obj nb C4 [av lb,J d,J G,J μ,J U,.map (some mb),.map (some mp),.map (some mr)]::stM s::Nu s::L)) ak ?_;refine GO.cr (vD lb S) ?_;by_cases he:(E2 S s.m).1=0
 case neg =>
  have a6:=c1 he;obtain⟨w,hw⟩:∃w,(E2 S s.m).1=w:=⟨_,rfl⟩;rw[a6,hw] at B;rw[b1] at B;have d1:w≠0:=by rw[<-hw];exact he
  refine Tj ?_;intros;rename_i a2;refine δ.cL (Γ:=aU lb S::stM s::Nu s::(obj a2 ji [J 0,J Δ,J 0,J E,J (-1),J 0,ah fH Q.length iI]::obj nb C4 [av lb,J d,J G,J μ,J U,.map (some mb),.map (some mp),.map (some mr)]::L)) ak ?_;refine δ.cr (B _) ?_;refine Tj ?_;intros;exact KX.en (.inr ⟨he,rfl,rfl⟩)
 rw[he,b1] at B;have b7:(bM S s.m).Κ.drop S.Κ.length=(E2 S s.m).2.Κ:=by rw[M he,List.drop_left]
 obtain⟨c2,b9⟩:=a5 he;have c0:s.m.fe.length<=64:=c2.2.2.2.1.2;have b5:(bM S s.m).Κ.length=S.Κ.length+s.m.fe.length:=by rw[M he,ay,b9]
 have b4:∀f∈(bM S s.m).Κ.drop S.Κ.length,f.Β.length<=1000000/\f.made.length<=1000000:=λf hf=>by
  have K:=eM hf;have T:=(a7.a.g.fl f K).2;have h3:=a7.rep.made f K;omega
 refine Tj ?_;intros;rename_i a2;refine δ.cL (Γ:=aU lb S::stM s::Nu s::(obj a2 ji [J 0,J Δ,J 0,J E,J (-1),J 0,ah fH Q.length iI]::obj nb C4 [av lb,J d,J G,J μ,J U,.map (some mb),.map (some mp),.map (some mr)]::L)) ak ?_;refine δ.cr (B _) ?_;refine Tj ?_;intros;refine GO.cL (Γ:=aU lb (bM S s.m)::(stM s::Nu s::obj nb C4 [av lb,J d,J G,J μ,J U,.map (some mb),.map (some mp),.map (some mr)]::L)) ak ?_;refine GO.ca (vC lb (bM S s.m) S.Κ.length D b4 D) ?_;rintro _ _⟨C3,F1,fs,rfl,a9,rfl⟩
 have b6:fs.length=s.m.fe.length:=by
  have:=congrArg List.length a9
  rw[al,cB] at this;omega
 refine Tj ?_;intros;refine Α.loop (α:=Nat×OA×Nat) (λg=>g.1<=fs.length) (λg=>[(14,ah g.2.1 ((fs.take g.1).map (·.m.A)).length g.2.2),(42,ah C3 fs.length F1),(43,J (fs.length:Int)),(44,J (g.1:Int))]) (λg=>Ω (dJ .i64) 1 B7 g.2.1 g.2.2 ((fs.take g.1).map (·.m.A))::Ω ft 11 gX C3 F1 fs::aU lb (bM S s.m)::stM s::Nu s::obj nb C4 [av lb,J d,J G,J μ,J U,.map (some mb),.map (some mp),.map (some mr)]::L) (λg=>fs.length - g.1) (0,none,0) D aD ?_ ?_
 .dsimp only;rw[bj,bz];refine(F.c8 (dJ .i64) 1 B7).trans ?_;exact ak
 rintro⟨i,I2,J4⟩ hi;dsimp only at hi ⊢;have c6:((fs.take i).map (·.m.A)).length=i:=by rw[al,aP];omega
 by_cases b0:i<fs.length
 case neg =>
  have hN:(fs.take i).map (·.m.A)=km S s.m:=by
   unfold km;rw[<-a9,co,aM D];rfl
  rw[hN];refine Tj ?_;intros;exact KX.en (.inl ⟨he,I2,J4,rfl,rfl⟩)
 have b8:(i:Int).toNat=i:=D
 have c4:(fs.take (i+1)).map (·.m.A)=(fs.take i).map (·.m.A)++[fs[i]!.m.A]:=by
  rw[aB b0,aQ,D7 b0];rfl
 refine Tj ?_;intros;rw[b8];refine GO.ef (Ef.a8 (Ε:=dJ .i64) (e:=fs[i]!.m.A) rfl rfl rfl rfl rfl bh (io _ _) D D) ae ?_;rintro _ _⟨b2,a3,rfl,rfl⟩;rw[<-c4];refine Tj ?_;intros;refine⟨(i+1,b2,a3),by dsimp only;omega,D,?_,by exact ak⟩;dsimp only;rw[bC i];exact aD
end
end Go.Proofs.YtlgpgjdggilkgaaGreatDoor
namespace Go.V
section
variable {P:Program}{N:Nat}{env:Env}{L:Η}{ty:TypeId}{κ α:Type}[DecidableEq κ]
theorem Ev.A0{t:TypeId}{x y:Operand}{Ξ η:Nat}{z B:Value}(kv:κ->Value){k:κ}[ht:P0 P t Ξ η z][hk:QZ P Ξ kv](O:cq env x=some (.map none))(Y:cq env y=some B)[M:Sy kv B k] :
  Ev P L env (.lookup t x y false) ty z :=
 Ev.mk (λθ R _ w ea s _ _ _ _=>by
  obtain rfl:=M.eq;have h3:=ht.zero;have hf:=pW (P:=P) (Ξ:=Ξ) (kv:=kv) (Ε:=λv:Value=>v) (m:=[]) (es:=#[]) k w rfl;simp at hf;cases hi:P.info? η with
  | none=>grind
  | some i =>
   rw[hi] at h3;simp at h3;simp[execOp,aJ ea O,aJ ea Y,Instr.lookup,run_underlying ht.under,hk.check,zeroValue,typeInfo,hi,h3,hf])
omit [DecidableEq κ] in
def Ev.Ue{t:TypeId}{x:Operand}{b Ξ η:Nat}{z:Value}{kv:κ->Value}{Ε:α->Value}{m:List (κ×α)}{F9:Η}[ht:P0 P t Ξ η z][hp:QD L b κ α kv Ε m F9](O:cq env x=some (.map (some b))) :
  Ev P L env (.call { callee:=.builtin .len,args:=#[x],argTypes:=#[t] }) ty (J (m.length:Int)) :=
 Ev.mk (λθ R _ w ea s _ _ _ _=>by
  obtain⟨es,B,e1,e2,e3,e4,e5,s2⟩:=(s.perm (hp.perm.append_right R)).Tk;have hb:=s2.Nr;have M:(getObj b).run P w=.ok (.map es B) w:=by simp[getObj,Sem.run,hb]
  have U:es.size=m.length:=by
   have:=congrArg List.length e1
   simpa using this
  simp[execOp,resolve,invoke,builtin,aJ ea O,Builtin.len_,run_underlying ht.under,goInt,M,U])
theorem Ev.f9{t:TypeId}{x:Operand}{ad:OA}{sz j o n:Nat}{α:Type}[Inhabited α]{Ε:α->τ}{I:List α}{vs:τ}[ht:NT P t n][hr:F2 L ad α Ε sz I]
  (O:cq env x=some (.pointer (Pb ad sz j o))) (hj:j<I.length) (hs:SA o n (Ε I[j]!) some=some vs):Ev P L env (.load t x) ty (.agg vs.toArray) :=
 Ev.mk (λθ R _ w ea s _ _ _ _=>by
  obtain⟨q1,q2⟩:=rq _ _ _ _ _ hs;simp only[Option.some.injEq] at q2;subst q2;obtain⟨K,T⟩:=hr.rd θ R w s;rcases T with T|⟨a,rfl,h3⟩
  .grind
  .have M:(Ε I[j]!).length=sz:=aj;have a2:=λk (hk:k<sz)=>nz (Ε:=Ε) (sz:=sz) (I:=I) (j:=j) (o:=k) K hj hk;generalize Ε I[j]! = cs at *;have U:=run_loadCells_list (P:=P) w (a.add (j*sz+o)) ((cs.drop o).take n) (by grind [Addr.add]);have B:((cs.drop o).take n).length=n:=by simp;omega
   rw[B] at U;simp[execOp,aJ ea O,Pb,Instr.loadAt,Instr.sureAddr,loadVar,ht.run,NT.Re,U])
end
end Go.V
namespace Go.Proofs.YtlgpgjdggilkgaaGreatDoor
open Go.V
abbrev B1:Nat:=98
abbrev PI:Nat:=150
structure eU where
 Λ:Int
 to:Int
 ct:G3
 deriving Inhabited,DecidableEq
structure OD where
 m:eU
 ad:OA
 cap:Nat
 deriving Inhabited
def bq(x:OD):τ:=[J x.m.Λ,J x.m.to,ah x.ad (Pc x.m.ct).length x.cap]
def eA(x:OD):∀u∈bq x,u.oneCell' = true:=by simp[bq,Value.oneCell']
instance:RN bq:=⟨eA⟩
abbrev gM(x:OD):HP:=ξ (dJ .u8) 1 x.ad (Pc x.m.ct)
def fq(x:OD):Om (gM x):=cQ _ _ _ _
def bL(b:Bool):Value:=.bool b
def NA(l:List Int):List (Int×Bool):=l.map λg=>(g,true)
def xY(k:Int):∀l:List Int,((ζ (NA l) k).map bL).getD (.bool false)=.bool (dB (k∈l))
 | []=>by rw[bB (λh=>hD h aG)];rfl
 | g::l=>by
  by_cases h:k=g
  .subst h;rw[bN aA];simp[NA,bL,ζ]
  .have T:(k == g)=false:=by simpa using h
   have ih:=xY k l;rw[show dB (k∈g::l)=dB (k∈l) by rw[dH,dH];simp[h],<-ih];unfold NA ζ;rw[aq,cA];simp only[T]
structure Ow where
 b:Nat
 Z:List Nl
 bG:OA
 hx:Nat
 iM:List Int
 G4:OA
 M3:Nat
 C6:Int
 I8:List Int
 mv:Nat
 told:List Int
 mt:Nat
 dec:Bool
 F7:Bool
 deriving Inhabited
def NW(x:Ow):τ:=[ah x.bG x.Z.length x.hx,ah x.G4 x.iM.length x.M3,J x.C6,.map (some x.mv),.map (some x.mt),.bool x.dec,.bool x.F7]
attribute [local irreducible] Α GO GP δ ms GF GE Ev Ef C0 F CB GB V.Enters
abbrev By:=Za [.ef 6,.ev 7,.ef 8]
def Ts{φ ψ:Prop}(k:ψ)(h:Hid ψ->φ:=by intro k;(repeat (first|refine ab ?_|intro B6|refine Α.dr 15 1 By ?_));(repeat revert B6);exact Hid.out k):φ:=h ⟨k⟩
def fy{L:Η}(nb lb:Nat)(d G μ U:Int)(mb mp mr:Nat)(to:Int)(c:O6)(hc:O7 c.m) :
  Τ Θ 148 #[av nb,J to,bF (eV c)] (obj nb C4 (gL lb d G μ U mb mp mr)::M9 c::L) (λv Γ=>∃x:OD,v=bF (bq x)/\x.m=⟨d,to,c.m⟩/\Γ = gM x::obj nb C4 (gL lb d G μ U mb mp mr)::M9 c::L):=by
 refine Τ.bd ?_;simp only[gL];refine Ts ?_;intros;rename_i bc br;refine δ.cL (Γ:=M9 c::(obj br B1 [J 0,J 0,ah none 0 0]::obj nb C4 [av lb,J d,J G,J μ,J U,.map (some mb),.map (some mp),.map (some mr)]::L)) ak ?_;refine δ.ca (BU c hc) ?_;rintro _ _⟨ad,cap,rfl,rfl⟩;refine Ts ?_;intros;refine KX.a8 (by exact C7.cell rfl bh (C7.nil)) ?_ ⟨⟨⟨d,to,c.m⟩,ad,cap⟩,rfl,rfl,rfl⟩;refine(F.at (Ο:=Ω (dJ .u8) 1 5 ad cap (Pc c.m)) F.N9).trans ?_;exact ak
def ck(d:Int)(gs:List Int)(W:List Int)(ct:G3):List eU:=(gs.filter λg=>decide (¬g∈W)).map λg=>⟨d,g,ct⟩
def AC(d:Int)(gs W:List Int)(ct:G3){i:Nat}(h:i<gs.length):ck d (gs.take (i+1)) W ct=ck d (gs.take i) W ct++(if gs[i]!∈W then[] else[⟨d,gs[i]!,ct⟩]):=by
 unfold ck;rw[aB h,List.filter_append,aQ,D7 h];congr 1;by_cases q:gs[i]∈W
 .rw[Χ q];simp[q]
 .rw[Ν q];simp[q]
theorem kU(d:Int)(gs W:List Int)(ct:G3):(ck d gs W ct).length<=gs.length:=by
 unfold ck;rw[al];exact fx _ _
def mA{L:Η}(nb lb:Nat)(d G μ U:Int)(mb mp mr:Nat)(x:Ow)(hg:x.iM.length<=100)(c:O6)(hc:O7 c.m)(mw:Option Nat)(W:List Int)(hW:(mw=none/\W=[])\/∃b R,mw=some b/\L=cS gm bL b (NA W)::R) :
  Τ Θ 114 #[av nb,.pointer (some ⟨x.b,0,none⟩),bF (eV c),.map mw] (obj nb C4 (gL lb d G μ U mb mp mr)::M9 c::obj x.b PI (NW x)::ξ (dJ .i64) 1 x.G4 x.iM::L) (λv Γ=>∃ad cap Q,v=ah ad Q.length cap/\Q.map (·.m)=ck d x.iM W c.m/\Γ = Ω bq 3 B1 ad cap Q::Ψ gM Q::obj nb C4 (gL lb d G μ U mb mp mr)::M9 c::obj x.b PI (NW x)::ξ (dJ .i64) 1 x.G4 x.iM::L):=by
 refine Τ.bd ?_;simp only[gL,NW];refine Nd ?_;intros;rename_i b6;refine Α.loop (α:=Nat×OA×Nat×List OD) (λg=>g.1<=x.iM.length/\g.2.2.2.map (·.m)=ck d (x.iM.take g.1) W c.m) (λg=>[(0,av nb),(3,.map mw),(6,av b6),(9,ah g.2.1 g.2.2.2.length g.2.2.1),(15,ah x.G4 x.iM.length x.M3),(16,J (x.iM.length:Int)),(17,J (g.1:Int))]) (λg=>Ω bq 3 B1 g.2.1 g.2.2.1 g.2.2.2::Ψ gM g.2.2.2::obj b6 OM (eV c)::obj nb C4 [av lb,J d,J G,J μ,J U,.map (some mb),.map (some mp),.map (some mr)]::M9 c::obj x.b PI [ah x.bG x.Z.length x.hx,ah x.G4 x.iM.length x.M3,J x.C6,.map (some x.mv),.map (some x.mt),.bool x.dec,.bool x.F7]::ξ (dJ .i64) 1 x.G4 x.iM::L) (λg=>x.iM.length - g.1) (0,none,0,[]) ⟨aC _,by dsimp only;rw[bj];rfl⟩ aD ?_ ?_
 .dsimp only;refine(F.a8 gM).trans ((F.c8 bq 3 B1).trans ?_);exact ak
 rintro⟨i,ad,cap,Q⟩ ⟨hi,M⟩;dsimp only at hi M ⊢
 have a7:Q.length<=100:=by
  have K:=congrArg List.length M;have T:=kU d (x.iM.take i) W c.m;rw[al] at K;rw[aP] at T;omega
 by_cases a6:i<x.iM.length
 case neg =>
  rw[aM D] at M;refine Nd ?_;intros;exact KX.en ⟨ad,cap,Q,rfl,M,rfl⟩
 have a4:(i:Int).toNat=i:=D;have a2:=AC d x.iM W c.m a6;refine Nd ?_;intros;rw[a4];rcases hW with⟨rfl,rfl⟩|⟨b,R,rfl,rfl⟩
 .refine GO.ev (Ev.A0 gm rfl rfl) ae ?_;have hq:¬x.iM[i]!∈([]:List Int):=aG;rw[Ν hq] at a2;refine Nd ?_;intros;refine GO.cL (Γ:=obj nb C4 [av lb,J d,J G,J μ,J U,.map (some mb),.map (some mp),.map (some mr)]::M9 c::(Ω bq 3 B1 ad cap Q::Ψ gM Q::obj b6 OM (eV c)::obj x.b PI [ah x.bG x.Z.length x.hx,ah x.G4 x.iM.length x.M3,J x.C6,.map (some x.mv),.map (some x.mt),.bool x.dec,.bool x.F7]::ξ (dJ .i64) 1 x.G4 x.iM::L)) ak ?_;refine GO.ca (fy nb lb d G μ U mb mp mr x.iM[i]! c hc) ?_;rintro _ _⟨y,rfl,Y,rfl⟩;simp only[gL];refine Nd ?_;intros;refine GO.ef (Ef.a8 (Ε:=bq) (e:=y) rfl rfl rfl rfl rfl bh (eA _) D D) ae ?_;rintro _ _⟨a3,B,rfl,rfl⟩;refine Nd ?_;intros;refine⟨(i+1,a3,B,Q++[y]),⟨by dsimp only;omega,by dsimp only;rw[aQ,M,a2,aq,bz,Y]⟩,by dsimp only;omega,?_,?_⟩
  .dsimp only;rw[bC i];exact aD
  .dsimp only;refine(F.at (Ο:=gM y) (F.d7 (f:=gM) fq)).trans ?_;refine(F.at (Ο:=Ψ gM [y]) (F.refl _)).trans ?_;refine(F.at (Ο:=Ψ gM Q) (F.refl _)).trans ?_;refine(F.c9 (f:=gM) fq).trans ?_;exact ak
 .refine GO.ev (Ev.j5 rfl rfl) ae ?_;have a5:=xY x.iM[i]! W;rw[show(Option.map bL (List.lookup x.iM[i]! (NA W))).getD (.bool false)=.bool (dB (x.iM[i]!∈W)) from a5];by_cases hq:x.iM[i]!∈W
  .rw[Χ hq,aI] at a2;rw[bN hq];refine Nd ?_;intros;refine⟨(i+1,ad,cap,Q),⟨by dsimp only;omega,by dsimp only;rw[a2,M]⟩,by dsimp only;omega,?_,by exact ak⟩;dsimp only;rw[bC i];exact aD
  .rw[Ν hq] at a2;rw[bB hq];refine Nd ?_;intros;refine GO.cL (Γ:=obj nb C4 [av lb,J d,J G,J μ,J U,.map (some mb),.map (some mp),.map (some mr)]::M9 c::(Ω bq 3 B1 ad cap Q::Ψ gM Q::obj b6 OM (eV c)::obj x.b PI [ah x.bG x.Z.length x.hx,ah x.G4 x.iM.length x.M3,J x.C6,.map (some x.mv),.map (some x.mt),.bool x.dec,.bool x.F7]::ξ (dJ .i64) 1 x.G4 x.iM::cS gm bL b (NA W)::R)) ak ?_;refine GO.ca (fy nb lb d G μ U mb mp mr x.iM[i]! c hc) ?_;rintro _ _⟨y,rfl,Y,rfl⟩;simp only[gL];refine Nd ?_;intros;refine GO.ef (Ef.a8 (Ε:=bq) (e:=y) rfl rfl rfl rfl rfl bh (eA _) D D) ae ?_;rintro _ _⟨a3,B,rfl,rfl⟩;refine Nd ?_;intros;refine⟨(i+1,a3,B,Q++[y]),⟨by dsimp only;omega,by dsimp only;rw[aQ,M,a2,aq,bz,Y]⟩,by dsimp only;omega,?_,?_⟩
   .dsimp only;rw[bC i];exact aD
   .dsimp only;refine(F.at (Ο:=gM y) (F.d7 (f:=gM) fq)).trans ?_;refine(F.at (Ο:=Ψ gM [y]) (F.refl _)).trans ?_;refine(F.at (Ο:=Ψ gM Q) (F.refl _)).trans ?_;refine(F.c9 (f:=gM) fq).trans ?_;exact ak
