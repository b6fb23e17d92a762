/- Lemmas. -/
import Derived.Test.YtlgpgjdggilkgaaGreatDoorEray
import Derived.Laws.CopyRow
set_option linter.all false
set_option maxHeartbeats 2000000
namespace Go.Proofs.YtlgpgjdggilkgaaGreatDoor
section
open Go.V
def Qx:List Mi:=[⟨⟨#[103,111,108,100]⟩,false,false,true,0,0,0⟩,⟨⟨#[111,114,101]⟩,false,false,false,0,0,0⟩,⟨⟨#[100,117,115,116]⟩,false,true,false,0,0,0⟩,⟨⟨#[103,101,109]⟩,false,false,false,0,0,0⟩]
def H9:D4:=⟨Qx,[]⟩
def wV(bi:Nat):Iq:=⟨Qx,some ⟨bi,0,none⟩,4,none,0,none,0,none,0⟩
def Fu(bi:Nat):(wV bi).cq:=⟨aP rfl⟩
attribute [local irreducible] Δ R GP Ο h2 GF GE O Ef A8 A CB GB V.Enters
def sF{L:LH}:Λ Ε 47 #[] L (λv Y=>∃c:Iq,v=bh c.cells/\(c.m=H9/\c.cq)/\Y = JU c::L):=by
 refine Λ.bd ?_;refine Ih ?_;intros;rename_i b0 bi;refine KX.a8 (vs:=[.agg (wV bi).cells.toArray]) (B6.cell rfl aS B6.nil) ?_ ⟨wV bi,rfl,⟨rfl,Fu bi⟩,rfl⟩;exact(A.n8 (b:=bi) (Β:=de) (sz:=7) Qx rfl (λ_ _=>rfl) (aP rfl)).trans (A.c7 A.drop)
end
section
open Go.V
def Χ.Pz(S:Χ)(x:Jl):Χ:={ S with imp:=λi=>(eO x.imp i).C0,ret:=λi=>(eO x.ret i).C0 }
def M3.Sf{S:Χ}{x:Jl}(h:M3 S x):Qr (S.Pz x) x:=⟨h.ζ,h.Ob,h.ο,h.full,h.gr,h.hx,h.Ι,λ_=>rfl,λ_=>rfl,h.vw⟩
def nD{α:Type}[DecidableEq α]:∀{l m:List α},l.Nodup->(∀x∈l,x∈m)->l.length<=m.length
 | [],_,_,_=>aC _
 | x::l,m,hn,hs=>by
  obtain⟨J,U⟩:=List.nodup_cons.1 hn;have K:=hs x az;have h3:=nD (m:=m.erase x) U (λy Z=>(List.mem_erase_of_ne (λe=>J (by rw[<-e];exact Z))).2 (hs y (aB _ Z)));have h4:=List.length_erase_of_mem K;have h5:=List.length_pos_of_mem K;rw[aO];omega
def PB(S:Χ)(a i:Int):Int:=dU (S.ο a i)
def kz(p:(Int×Int)×ey):Hd:=(p.1.1,p.1.2,dU p.2.C0)
def zD{S:Χ}(h:S.Ok){a i:Int}:dU (S.ο a i)≠0↔S.ο a i≠[]:=by
 constructor
 .intro q e;exact q (by rw[e];rfl)
 .intro q;have:=kg (h.ο a i).2 (List.length_pos_iff.2 q)
  omega
def Fg{S:Χ}{x:Jl}(hS:S.Ok)(hF:Qr S x)(hn:(x.ο.map (·.1)).Nodup){ys:List Hd}(Z:gc LW (x.ο.map kz) ys):OZ (PB S) ys:=by
 have I:∀p∈x.ο,S.ο p.1.1 p.1.2=p.2.C0:=λp hp=>by
  rw[<-hF.ο];unfold eO dV;rw[gP hn hp];rfl
 have r:(ys.map (λh=>(h.1,h.2.1))).Nodup:=by
  refine((Z.1.map _).nodup_iff).2 ?_;rw[cO];exact hn
 constructor
 .have U:=List.pairwise_map.1 r;refine(List.pairwise_and_iff.2 ⟨Z.2,U⟩).imp (λ {a b} h=>?_);obtain⟨q1,q2⟩:=h;rw[oO] at q1;have q3:¬(a.1=b.1/\a.2.1=b.2.1):=λe=>q2 (by rw[e.1,e.2]);unfold L8 at q1 ⊢;omega
 .intro h;rw[Z.1.mem_iff,List.mem_map];constructor
  .rintro⟨p,hp,rfl⟩;have e:=I p hp;refine⟨?_,?_⟩
   .show dU p.2.C0=dU (S.ο p.1.1 p.1.2);rw[e]
   .show dU p.2.C0≠0;rw[<-e];refine(zD hS).2 ?_;rw[e];exact hF.full p hp
  .rintro⟨e1,e2⟩;have h3:S.ο h.1 h.2.1≠[]:=(zD hS).1 (by rw[e1] at e2;exact e2);have h4:=hF.ο h.1 h.2.1;unfold eO at h4;cases hg:dV x.ο (h.1,h.2.1) with
   | none =>
    rw[hg] at h4;exact iW h4.symm h3
   | some s =>
    rw[hg] at h4;refine⟨((h.1,h.2.1),s),bT hg,?_⟩;obtain⟨a,i,n⟩:=h;show(a,i,dU s.C0)=(a,i,n);have h5:s.C0=S.ο a i:=h4;rw[h5];have h6:n=dU (S.ο a i):=e1;rw[h6]
def Eu{S:Χ}{x:Jl}(hS:nV S.ο S.Ι)(hF:Qr S x)(hn:(x.ο.map (·.1)).Nodup):x.ο.length<=S.Ι.length:=by
 have h:=nD (m:=S.Ι.map (λf=>(f.to,f.aT))) hn (λk hk=>by
  obtain⟨p,hp,rfl⟩:=IY hk
  have e:S.ο p.1.1 p.1.2=p.2.C0:=by
   rw[<-hF.ο];unfold eO dV;rw[gP hn hp];rfl
  obtain⟨f,hf,e1,e2⟩:=hS p.1.1 p.1.2 (by rw[e];exact hF.full p hp);exact List.mem_map.2 ⟨f,hf,by rw[e1,e2]⟩)
 rw[ah,ah] at h;exact h
def MX.ok{k:Nat}{S:Χ}(h:MX k S)(hk:k<=4096):S.Ok:=⟨h.kQ,h.hx,h.Ι,λa i=>⟨aQ (h.ο a i).len hk,(h.ο a i).C0⟩,h.gr⟩
def FE:Ln (eO ([]:List (Int×ey))) []:=Ey
attribute [local irreducible] Δ R GP Ο h2 GF GE O Ef A8 A CB GB V.Enters
abbrev Bc:=Uu [.ev 5,.ev 6,.ev 7,.ev 8,.ef 4,.ef 9,.ef 10,.ef 11,.ev 12]
def ND{φ ψ:Prop}(k:ψ)(h:Hid ψ->φ:=by intro k;(repeat (first|refine aa ?_|intro sh|refine Δ.dr 17 1 Bc ?_));(repeat revert sh);exact Hid.out k):φ:=h ⟨k⟩
def yI{L:LH}(x y:Hd):Λ Ε 60 #[bh (gE x),bh (gE y)] L (C9 (E (LW x y)) L):=by
 refine Λ.bd ?_;refine ND ?_;intros;refine Ο.cr (jq x.1 y.1) ?_;refine ND ?_;intros;refine Ο.cr (jq x.2.1 y.2.1) ?_;refine ND ?_;intros;rename_i bc;refine Ο.υ (A.d9 (Β:=a0 .i64) (sz:=1) (D:=[KI x.1 y.1,KI x.2.1 y.2.1]) rfl rfl (λ_ _=>rfl) bR) ?_;refine Ο.cr (nC (some ⟨bc,0,none⟩) 2 (KI x.1 y.1) (KI x.2.1 y.2.1)) ?_;refine ND ?_;intros;exact KX.en ⟨rfl,rfl⟩
def vN{Τ cap:Nat}{M:OA}{D:List Hd}(r:D.length<4611686018427387904) :
  Λ Ε 59 #[ae M D.length cap,.func (.func 60) #[] #[]] [Υ gE 3 Τ M cap D] (λv Y=>v=.tuple #[]/\∃ys,gc LW D ys/\Y = [Υ gE 3 Τ M cap ys]) :=
 Λ.a8 (ρ:=Tryz.RY) Tryz.TL (k:=3) Tryz.isAgg73 Tryz.sizeOf73 (λ_=>rfl) tB (Lc:=[]) LW zM Tw Tx.1 (λ_ _ _=>trivial) (λx y=>(yI (L:=[]) x y).mono (λ_ _ h=>h.1)) r
abbrev Bd:=Uv [.ef 6,.ev 7,.ef 8,.ef 9,.ev 10]
def NH{φ ψ:Prop}(k:ψ)(h:Hid ψ->φ:=by intro k;(repeat (first|refine aa ?_|intro sh|refine Δ.dr 35 5 Bd ?_));(repeat revert sh);exact Hid.out k):φ:=h ⟨k⟩
def rD{L:LH}(b:Nat)(S:Χ)(x:Jl)(hF:Qr S x)(hO:S.Ok)(hS:nV S.ο S.Ι)(b4:S.Ι.length<=100000) :
  Λ Ε 21 #[al b] (obj b MR (bV S.kQ x)::τ B7 ey.v x.T x.ο::Ρ (λp:(Int×Int)×ey=>E7 p.2) x.ο::L) (λv Y=>∃M cap hs,v=ae M hs.length cap/\(OZ (PB S) hs/\hs.length<=4194304)/\Y = Υ gE 3 MU M cap hs::obj b MR (bV S.kQ x)::τ B7 ey.v x.T x.ο::Ρ (λp:(Int×Int)×ey=>E7 p.2) x.ο::L):=by
 refine Λ.bd ?_;simp only[bV];refine Δ.c9 (dR (b:=x.T) (m:=x.ο) (kv:=B7) (Β:=ey.v)) ?_;intro I;have b1:=Eu hS hF I;refine NH ?_;intros;refine R.ev (O.OP rfl) ac ?_;refine NH ?_;intros;refine R.ef (Ef.g8 gE ((0,0,0):Int×Int×Int) rfl rfl rfl ac B B B) ac ?_;rintro _ _⟨bs,rfl,rfl⟩;rw[show List.replicate (0:Int).toNat ((0,0,0):Int×Int×Int)=[] from rfl];refine NH ?_;intros;refine R.ef (Ef.j6 rfl) ac ?_;rintro _ _⟨Θ,rfl,rfl⟩;refine NH ?_;intros;refine Δ.loop (α:=OA×Nat×List ((Int×Int)×ey)) (λz=>z.2.2.length<=x.ο.length) (λz=>[(3,ae z.1 (z.2.2.map kz).length z.2.1),(16,al Θ)]) (λz=>ft B7 ey.v x.T x.ο Θ z.2.2::Υ gE 3 MU z.1 z.2.1 (z.2.2.map kz)::obj b MR (bV S.kQ x)::Ρ (λp:(Int×Int)×ey=>E7 p.2) x.ο::L) (λz=>x.ο.length - z.2.2.length) (some ⟨bs,0,none⟩,(x.ο.length:Int).toNat,[]) (aC _) aA (A.refl _) ?_;rintro⟨M,cap,done⟩ a9;dsimp only at a9 ⊢;have b6:(done.map kz).length=done.length:=by simp
 refine NH ?_;intros;refine R.ef (Ef.j8 rfl) ac ?_;rintro _ _ (⟨rfl,rfl,hp⟩|⟨p,rfl,rfl,a5,b7,b5⟩)
 .have b0:=hp.length_eq;refine NH ?_;intros;(first|refine R.ef (Ef.call (vN (Τ:=MU) (M:=M) (cap:=cap) (D:=done.map kz) B) rfl eY) ac ?_);rintro _ _⟨_,⟨rfl,ys,a2,rfl⟩,hL⟩;simp only[aj,ak] at hL;subst hL;refine NH ?_;intros;have a3:gc LW (x.ο.map kz) ys:=⟨a2.1.trans (hp.map kz),a2.2⟩;have b3:=a2.1.length_eq;refine KX.a8 aw ?_ ⟨M,cap,ys,by rw[b3];rfl,⟨Fg hO hF I a3,B⟩,rfl⟩;refine(A.at (Μ:=ft B7 ey.v x.T x.ο Θ done) A.j9).trans ?_;exact ag
 have b2:p.2.C0=S.ο p.1.1 p.1.2:=by
  rw[<-hF.ο];unfold eO dV;rw[gP I a5];rfl
 obtain⟨a7,a4⟩:=hO.ο p.1.1 p.1.2;rw[<-b2] at a7 a4;refine R.υ (A.at (Μ:=Ρ (λp:(Int×Int)×ey=>E7 p.2) x.ο) (A.d8 (x:=p) a5)) ?_;refine NH ?_;intros;refine R.ev (O.j6 (done:=done) rfl rfl) ac ?_;simp only[B7,ey.v,aF,aY];refine NH ?_;intros;refine Ο.cr (kn p.2.M _ p.2.cap p.2.C0 rfl B a4) ?_;refine NH ?_;intros;refine Ο.ef (Ef.a8 (Β:=gE) (e:=kz p) rfl rfl rfl rfl rfl aS (tB _) B B) ac ?_;rintro _ _⟨a6,r,rfl,rfl⟩;refine NH ?_;intros;refine⟨(a6,r,done++[p]),by dsimp only;simp;omega,by dsimp only;simp;omega,?_,?_⟩
 .dsimp only;rw[aL];exact aA
 .dsimp only;rw[aL,show List.map kz [p]=[kz p] from rfl];exact ag
def BK{L:LH}(d:Int)(c:Iq)(I:0<=d/\d<12)(hB:c.cq)(h:Of c.m):Λ Ε 46 #[E d,bh c.cells] (JU c::bO::L) (λv Y=>∃b,v=.tuple #[al b,E 0]/\Y = aN b (I2 d c.m)::JU c::bO::L):=by
 obtain⟨J,U⟩:=I;refine Λ.bd ?_;simp only[Iq.cells];refine Ih ?_;intros;rename_i b3;refine R.υ (Y:=JU c::bO::obj b3 OW c.cells::L) (by simp only[Iq.cells];exact ag) ?_;refine R.cr (DT c h) ?_;simp only[Iq.cells];refine Ih ?_;intros;refine R.υ (Y:=JU c::bO::obj b3 OW c.cells::L) (by simp only[Iq.cells];exact ag) ?_;refine R.ca (od c hB) ?_;rintro _ _⟨c',rfl,r,rfl⟩;simp only[Iq.cells];refine R.ef (Ef.c8 B7 ey.v (.inl rfl)) ac ?_;rintro _ _⟨b1,rfl,rfl⟩;refine R.ef (Ef.c8 cu KH (.inl rfl)) ac ?_;rintro _ _⟨b2,rfl,rfl⟩;refine R.ef (Ef.c8 cu ey.v (.inl rfl)) ac ?_;rintro _ _⟨b4,rfl,rfl⟩;refine R.ef (Ef.c8 cu ey.v (.inl rfl)) ac ?_;rintro _ _⟨b5,rfl,rfl⟩;refine Ih ?_;intros;rename_i b6;refine KX.a8 aw ?_ ⟨b6,rfl,rfl⟩;refine A.trans ?_ (gj (S:=I2 d c.m) ⟨c',b1,b2,b4,b5,[],[],[],[],[],none,0,[],none,0,(none,[]),(none,[])⟩ ⟨r,Iq.a8 r hB,λ_ _=>rfl,(λ_ h=>by cases h),λ_=>rfl,rfl,rfl,FE,FE,⟨rfl,rfl⟩⟩);simp only[B1,bV,I2];refine(A.c8 da 7 gJ).trans (A.RU.trans ((A.c8 ee 11 fS).trans (A.RU.trans ?_)));refine(A.a8 (λp:(Int×Int)×ey=>E7 p.2)).trans ((A.a8 eJ).trans ((A.a8 Kw).trans ((A.a8 (λp:Int×ey=>E7 p.2)).trans ((A.a8 (λp:Int×ey=>E7 p.2)).trans ?_))));exact ag
end
end Go.Proofs.YtlgpgjdggilkgaaGreatDoor
namespace Go.V
section
section fv
variable {P:Program}{N:Nat}{env:Env}{L:LH}{Ν:E1}{ty:TypeId}
end fv
end
section
section
variable {P:Program}{env:Env}{L:LH}{ty:TypeId}
theorem Ef.l7{t:TypeId}{x:Operand}{α:Type}{Β:α->LV}{M:OA}{n c i sz Τ bb cap:Nat}{D:List α}{z:LV}{R1:LH}[ht:IJ P t Τ sz bb z][hp:MO L M α Β sz Τ cap D R1]
  (K:χ env x=some (.slice (Jk M cap sz i) n c)) (hi:i+n=D.length) (J:∀u∈z,u.oneCell' = true)
  : Ef P L env (.call { callee:=.builtin .clear,args:=#[x],argTypes:=#[t] }) ty (λv Y=>v=.tuple #[]/\Y = Υ Β sz Τ M cap (D.take i)::R1) :=
 Ef.val (λθ Α a w ea s b3 pos af g=>by
  have s1:=s.perm (hp.perm.append_right Α);obtain⟨ii,z0,i1,i2,i3,i4,i5⟩:=ht.Ζ;have I:Sat θ (Υ Β sz Τ M cap (D.take i)::R1++Α) w:=A.m9 i θ Α w s1;by_cases hn:n=0
  .subst hn;refine⟨.tuple #[],w,_,?_,⟨rfl,rfl⟩,I⟩;cases hd:Jk M cap sz i with
   | none=>rw[hd] at K;simp[execOp,resolve,invoke,builtin,aH ea K,Builtin.clear_,run_underlying ht.under]
   | some Ξ=>rw[hd] at K;simp[execOp,resolve,invoke,builtin,aH ea K,Builtin.clear_,run_underlying ht.under]
  obtain⟨p1,p2,p3,p4⟩:=Sat.Lw s1;rcases p4 with⟨rfl,rfl⟩|⟨gb,r,rfl,f1,f2,f3⟩
  .omega
  have hb:w.heap[gb]? = some (.cells r Τ (0,0)):=f3.IN;have a7:=bK sz p2
  have a6:Jk (some ⟨gb,0,none⟩) cap sz i=some ⟨gb,i*sz,none⟩:=by
   unfold Jk;rw[Ω B];simp[fi]
  rw[a6] at K;have a5:z0.cells.size=sz:=by rw[<-ht.N5,<-i3];simp
  obtain⟨vs,a3⟩:∃vs,vs=(Builtin.zeroCells z0.cells n).toList:=⟨_,rfl⟩;have b5:vs.length=n*sz:=by rw[a3,dF,size_zeroCells,a5]
  have b2:∀u∈vs,u.oneCell' = true:=by
   intro u hu;rw[a3] at hu;simp only[Builtin.zeroCells,Array.toList_map,List.mem_map,Array.toList_range,List.mem_range] at hu;obtain⟨k,hk,rfl⟩:=hu;have a2:0<z0.cells.size:=by rw[a5];exact ht.pos
   have b0:k % z0.cells.size<z0.cells.size:=dA _ a2;refine J _ ?_;rw[<-i3,getElem!_pos z0.cells _ b0];exact ay
  have b1:i*sz+n*sz=D.length*sz:=by rw[<-dl,hi]
  have a4:=run_storeCells_at P gb (i*sz) Τ vs 0 r w hb B b2;simp only[dW] at a4;refine⟨.tuple #[],w.setRow gb (r.toList.take (i*sz)++vs++r.toList.drop (i*sz+vs.length)).toArray,_,?_,⟨rfl,rfl⟩,?_⟩
  .obtain⟨m,rfl⟩:∃m,n=m+1:=⟨n - 1,B⟩;simp[execOp,resolve,invoke,builtin,aH ea K,Builtin.clear_,run_underlying ht.under,zeroValue,typeInfo,i1,i2,<-a3,a4]
  .have s3:Sat θ (h1 gb (.cells (r.toList.take (i*sz)++vs++r.toList.drop (i*sz+vs.length)).toArray Τ (0,0))::(R1++Α)) (w.setRow gb (r.toList.take (i*sz)++vs++r.toList.drop (i*sz+vs.length)).toArray) :=
    Sat.update f3 ⟨s.1.tape,s.1.os,s.1.output,s.1.drawn⟩ (setRow_heap w gb _ _ Τ _ hb) (by grind [setRow_other])
   have b4:(D.take i).length=i:=by rw[aK];omega
   refine Sat.Mu (L:=R1++Α) s3 ay B p3 ?_ ?_
   .simp;omega
   .have a9:=cF (D:=D.take i) (λx K=>p1 x (cl K));grind [cz])
end
end
section
section
variable {P:Program}{env:Env}{L:LH}{ty:TypeId}{κ α:Type}
def Ef.k8{f:FuncId}{x:Operand}{ats:Array TypeId}{t:TypeId}{b:Nat}{kv:κ->Value}{Β:α->Value}{m:List (κ×α)}{D8:LH}(hf:RL P f)[hp:KQ L b κ α kv Β m D8](K:χ env x=some (.iface t (.map (some b)))) :
  Ef P L env (.call { callee:=.value (.func f),args:=#[x],argTypes:=ats }) ty (λv Y=>∃b',v=.iface t (.map (some b'))/\Y = τ kv Β b' m::τ kv Β b m::D8) :=
 Ef.val (λθ Α ρ w ea s a3 pos af g=>by
  have s1:Sat θ (τ kv Β b m::(D8++Α)) w:=s.perm (hp.perm.append_right Α);obtain⟨es,r,J,U,h3,h4,h5,s2⟩:=Sat.Nu s1;have hb:=s2.IN;refine⟨_,w.alloc (.map es r),_,?_,⟨w.heap.size,rfl,rfl⟩,?_⟩
  .have I:#[x].map ρ=#[.iface t (.map (some b))]:=by simp[aH ea K]
   have a2:ρ (.func f)=.func (.func f) #[] #[]:=ea _ _ rfl;simp[execOp,resolve,Deferred.ofValue,invoke,a2,aH ea K,hf.run,se t hb,Result.andThen]
  .have s3:=s2.alloc (o:=.map es r);have s4:=Sat.c8 s3 J U h3 h4 h5;have s5:=s4.perm (List.Perm.swap _ _ _);have s6:=Sat.c8 s5 J U h3 h4 h5;exact s6.perm (List.Perm.swap _ _ _))
variable [DecidableEq κ]
end
end
end Go.V
namespace Go.Proofs.YtlgpgjdggilkgaaGreatDoor
section
open Go.V
attribute [local irreducible] Δ R GP Ο h2 GF GE O Ef A8 A CB GB V.Enters
def nF:RL Ε 144:=⟨λargs w=>run_callFunc_extern Tryz.func144 Γ Γ Γ (e:=Extern.MapsClone.clone) Γ args w⟩
def vJ{L Α:LH}(b:Nat)(m:List ((Int×Int)×ey))[hp:KQ L b (Int×Int) ey B7 ey.v m Α]:Λ Ε 88 #[.map (some b)] L (λv Y=>∃b',v=.map (some b')/\Y = τ B7 ey.v b' m::τ B7 ey.v b m::Α):=by
 refine Λ.bd ?_;refine Ih ?_;intros;refine R.ev (O.n8 rfl rfl) ac ?_;refine Ih ?_;intros;refine R.ev (O.l9 rfl) ac ?_;refine Ih ?_;intros;refine R.ef (Ef.k8 nF rfl) ac ?_;rintro _ _⟨b',rfl,rfl⟩;refine Ih ?_;intros;refine R.ev (O.p8 rfl) ac ?_;refine Ih ?_;intros;exact KX.en ⟨b',rfl,rfl⟩
def vK{L Α:LH}(b:Nat)(m:List (Int×Int))[hp:KQ L b Int Int cu KH m Α]:Λ Ε 89 #[.map (some b)] L (λv Y=>∃b',v=.map (some b')/\Y = τ cu KH b' m::τ cu KH b m::Α):=by
 refine Λ.bd ?_;refine Ih ?_;intros;refine R.ev (O.n8 rfl rfl) ac ?_;refine Ih ?_;intros;refine R.ev (O.l9 rfl) ac ?_;refine Ih ?_;intros;refine R.ef (Ef.k8 nF rfl) ac ?_;rintro _ _⟨b',rfl,rfl⟩;refine Ih ?_;intros;refine R.ev (O.p8 rfl) ac ?_;refine Ih ?_;intros;exact KX.en ⟨b',rfl,rfl⟩
def oH{L Α:LH}(b:Nat)(m:List (Int×ey))[hp:KQ L b Int ey cu ey.v m Α]:Λ Ε 92 #[.map (some b)] L (λv Y=>∃b',v=.map (some b')/\Y = τ cu ey.v b' m::τ cu ey.v b m::Α):=by
 refine Λ.bd ?_;refine Ih ?_;intros;refine R.ev (O.n8 rfl rfl) ac ?_;refine Ih ?_;intros;refine R.ev (O.l9 rfl) ac ?_;refine Ih ?_;intros;refine R.ef (Ef.k8 nF rfl) ac ?_;rintro _ _⟨b',rfl,rfl⟩;refine Ih ?_;intros;refine R.ev (O.p8 rfl) ac ?_;refine Ih ?_;intros;exact KX.en ⟨b',rfl,rfl⟩
def yW{L:LH}(M:OA)(n c:Nat)(h:n<=c):Λ Ε 90 #[ae M n c] L (C9 (ae M n n) L):=by
 refine Λ.bd ?_;refine Ih ?_;intros;refine R.ev (O.k6 rfl rfl rfl B B) ac ?_;rw[aZ];refine Ih ?_;intros;exact KX.en ⟨rfl,rfl⟩
def yX{L:LH}(M:OA)(n c:Nat)(h:n<=c):Λ Ε 91 #[ae M n c] L (C9 (ae M n n) L):=by
 refine Λ.bd ?_;refine Ih ?_;intros;refine R.ev (O.k6 rfl rfl rfl B B) ac ?_;rw[aZ];refine Ih ?_;intros;exact KX.en ⟨rfl,rfl⟩
abbrev AJ:=Ux [.ev 10,.ev 11,.ev 13,.ev 14,.ev 15,.ev 16,.ev 18,.ev 19,.ev 20,.ev 21,.ev 23,.ev 24,.ev 25,.ev 26,.ev 28,.ev 29,.ev 30,.ev 31,.ev 33,.ev 34,.ev 35,.ev 36,.ef 12,.ef 17,.ef 22,.ef 27,.ef 32,.ef 37,.ev 38,.ef 39,.ev 40]
def NS{φ ψ:Prop}(k:ψ)(h:Hid ψ->φ:=by intro k;(repeat (first|refine aa ?_|intro sh|refine Δ.dr 43 1 AJ ?_));(repeat revert sh);exact Hid.out k):φ:=h ⟨k⟩
def BL{L:LH}(b:Nat)(S:Χ)(x:Jl)(J:x.hx.length<=x.IT)(U:x.Ι.length<=x.C4) :
  Λ Ε 39 #[al b] (B1 b S.kQ x L) (λv Y=>∃b' m1 m2 m3 m4,v=.pointer (some ⟨b',0,none⟩)/\Y = obj b' MR (bV S.kQ { x with T:=m1,mt:=m2,mi:=m3,mr:=m4,IT:=x.hx.length,C4:=x.Ι.length })::τ B7 ey.v m1 x.ο::τ cu KH m2 x.gr::τ cu ey.v m3 x.imp::τ cu ey.v m4 x.ret::B1 b S.kQ x L):=by
 refine Λ.bd ?_;simp only[B1];refine NS ?_;intros;refine Ο.ca (vJ x.T x.ο) ?_;rintro _ _⟨m1,rfl,rfl⟩;refine NS ?_;intros;refine Ο.ca (vK x.mt x.gr) ?_;rintro _ _⟨m2,rfl,rfl⟩;refine NS ?_;intros;refine Ο.cr (yW x.B8 x.hx.length x.IT J) ?_;refine NS ?_;intros;refine Ο.cr (yX x.A7 x.Ι.length x.C4 U) ?_;refine NS ?_;intros;refine Ο.ca (oH x.mi x.imp) ?_;rintro _ _⟨m3,rfl,rfl⟩;refine NS ?_;intros;refine Ο.ca (oH x.mr x.ret) ?_;rintro _ _⟨m4,rfl,rfl⟩;refine NS ?_;intros;rename_i b';refine KX.a8 aw ?_ ⟨b',m1,m2,m3,m4,rfl,rfl⟩;simp only[B1,bV];exact ag
def JH(b:Nat)(d:Int)(x:Jl)(L:LH):LH:=obj b MR (bV d x)::τ B7 ey.v x.T x.ο::τ cu KH x.mt x.gr::τ cu ey.v x.mi x.imp::τ cu ey.v x.mr x.ret::Ρ (λp:(Int×Int)×ey=>E7 p.2) x.ο::Ρ eJ x.hx::L
def Ch{L:LH}(b:Nat)(S:Χ)(hs:S.kQ=S.kQ):Λ Ε 39 #[al b] (aN b S::L) (λv Y=>∃b' x,v=.pointer (some ⟨b',0,none⟩)/\M3 S x/\Y = aN b (S.view (x.B8,x.hx) (x.A7,x.Ι))::JH b' S.kQ x L):=by
 refine Λ.c9 (g:=gT b S) QT.1 ?_;intro x;show Λ _ _ _ (dp (M3 S x)::B1 b S.kQ x L) _;refine Λ.c8 QT.1 ?_;intro hF;refine Λ.d9 QT.1 (φ:=x.hx.length<=x.IT/\x.Ι.length<=x.C4) (λθ Α w s=>⟨(sH (L:=B1 b S.kQ x L) (M:=x.B8) θ Α w s).1,(sH (L:=B1 b S.kQ x L) (M:=x.A7) θ Α w s).1⟩) ?_;intro hc;refine(BL (L:=L) b S x hc.1 hc.2).LO ?_;rintro _ _⟨b',m1,m2,m3,m4,rfl,rfl⟩;refine⟨_,⟨b',{ x with T:=m1,mt:=m2,mi:=m3,mr:=m4,IT:=x.hx.length,C4:=x.Ι.length },rfl,⟨hF.ζ,hF.Ob,hF.ο,hF.full,hF.gr,hF.hx,hF.Ι,hF.imp,hF.ret,hF.vw⟩,rfl⟩,?_⟩;have r:M3 (S.view (x.B8,x.hx) (x.A7,x.Ι)) { x with sv:=(x.B8,x.hx),fv:=(x.A7,x.Ι) }:=⟨hF.ζ,hF.Ob,hF.ο,hF.full,hF.gr,hF.hx,hF.Ι,hF.imp,hF.ret,⟨rfl,rfl⟩⟩;refine A.trans ?_ (gj (b:=b) _ r);simp only[B1,bV,JH];refine(A.at (Μ:=JF da 7 gJ x.B8 x.IT x.hx x.sv) A.m5).trans ?_;refine(A.at (Μ:=JF ee 11 fS x.A7 x.C4 x.Ι x.fv) A.m5).trans ?_;refine(A.at (Μ:=Ρ (λp:(Int×Int)×ey=>E7 p.2) x.ο) (A.dup (tE _ _))).trans ?_;refine(A.at (Μ:=Ρ eJ x.hx) (A.dup (tE _ _))).trans ?_;show A _ (obj b MR (bV S.kQ x)::_);exact ag
end
section
open Go.V
def Di{k:Nat}{S:Χ}(h:MX k S)(hk:k<=4096)(x:Jl):(S.Pz x).Ok:=⟨h.kQ,h.hx,h.Ι,λa i=>⟨aQ (h.ο a i).len hk,(h.ο a i).C0⟩,h.gr⟩
instance XZ {α:Type} (L:LH) (Β:α->LV) (sz Τ:Nat) (M P0:OA) (cap:Nat) (D ys:List α):C7 (JF Β sz Τ M cap D (P0,ys)::L) P0 α Β sz ys:=⟨λ_ _ _ s=>Sat.j0 s⟩
attribute [local irreducible] Δ R GP Ο h2 GF GE O Ef A8 A CB GB V.Enters
def pf{L:LH}(M:OA)(c:Nat)(T:List E8)[hrd:C7 L M E8 da 7 T](hl:T.length<=100000)(hp:∀m∈T,m.cM.length<=64/\∀u∈m.cM,u.m.Ζ.length<=1000000) :
  Λ Ε 135 #[ae M T.length c,.func (.func 133) #[] #[]] (Ρ eJ T::L) (λv Y=>∃a4 c' r,v=ae a4 r.length c'/\(r.map (·.m)=T.map (·.m)/\r.length<=c'/\∀m∈r,Rg m)/\Y = Υ da 7 gJ a4 c' r::ew O3 r::Ρ eJ T::L):=by
 refine Λ.bd ?_;by_cases h0:T.length=0
 .have e:T=[]:=bG h0;subst e;refine Ih ?_;intros;exact KX.a8 aw ((A.j0 O3).trans (A.c8 da 7 gJ)) ⟨none,0,[],rfl,⟨rfl,au _,(λm h=>by cases h)⟩,rfl⟩
 refine Ih ?_;intros;refine R.ef (Ef.g8 da Sc rfl rfl rfl B B B B) ac ?_;rintro _ _⟨bs,rfl,rfl⟩;rw[show(T.length:Int).toNat=T.length by omega];refine Ih ?_;intros
 refine Δ.loop (α:=Nat×List E8) (λz=>z.1<=T.length/\z.2.length=T.length/\((z.2.take z.1).map (·.m)=(T.take z.1).map (·.m)/\∀m∈z.2.take z.1,Rg m)) (λ  z=>[(1,.func (.func 133) #[] #[]),(5,ae (some ⟨bs,0,none⟩) T.length T.length),(14,ae M T.length c),(15,E (T.length:Int)),(16,E (z.1:Int))])
  (λz=>Υ da 7 gJ (some ⟨bs,0,none⟩) T.length z.2::ew O3 (z.2.take z.1)::Ρ eJ T::L) (λz=>T.length - z.1) (0,List.replicate T.length Sc) ⟨aC _,by simp,by simp,(λm h=>by rw[aU] at h;cases h)⟩ aA ?_ ?_
 .dsimp only;rw[aU];refine(A.j0 O3).trans ?_;exact ag
 rintro⟨i,zs⟩ ⟨hi,a9,a2,I⟩;dsimp only at hi a9 a2 I ⊢;by_cases a3:i<T.length
 case neg =>
  have b0:i=T.length:=B;subst b0;rw[aG B,aG B] at a2;rw[aG B] at I;rw[aG (B:zs.length<=T.length)];refine Ih ?_;intros;refine KX.a8 aw (A.refl _) ⟨some ⟨bs,0,none⟩,T.length,zs,by rw[a9];rfl,⟨a2,B,I⟩,rfl⟩
 have a5:(i:Int).toNat=i:=B;have a6:T[i]!∈T:=bA a3;have a7:=hp _ a6;refine Ih ?_;intros;rw[a5];refine R.υ (A.at (Μ:=Ρ eJ T) ((A.d8 (f:=eJ) (x:=T[i]!) a6).trans A.OM)) ?_;refine R.ef (Ef.d7 rfl rfl (wP T[i]! a7.1 a7.2)) ac ?_;rintro _ _⟨m',rfl,⟨b1,b2⟩,rfl⟩;refine Ih ?_;intros;refine R.I1 (Ef.g9 (e:=m') rfl rfl aS aS (lr _) B) ?_;rintro _ _ rfl;rw[a5];refine Ih ?_;intros;refine⟨(i+1,zs.set i m'),⟨by dsimp only;omega,by dsimp only;simp;omega,?_,?_⟩,by dsimp only;omega,?_,?_⟩
 .dsimp only;rw[eh B,av a3,aL,aL,a2,<-C5 a3];simp[b1]
 .dsimp only;rw[eh B];intro m hm;rcases It hm with q|q
  .exact I m q
  .rw[D6 q];exact b2
 .dsimp only;rw[bC i];exact aA
 .dsimp only;rw[eh B];refine A.c7 ?_;refine A.trans (cq:=O3 m'::ew O3 (zs.take i)::Ρ eJ T::L) ag ?_;exact A.k8
def xu{L:LH}(b:Nat)(S:Χ)(hS:∀s∈S.hx,s.cM.length<=64/\∀u∈s.cM,u.Ζ.length<=1000000)(a5:S.hx.length<=100000) :
  Λ Ε 84 #[al b] (aN b S::L) (λv Y=>∃M cap,v=ae M S.hx.length cap/\Y = aN b S::L):=by
 refine Λ.bd ?_;refine Δ.c8 (f:=gT b S) ?_;intro x;simp only[gT,B1,bV,aj,ak];refine Δ.d7 ?_;intro hF;have a6:x.hx.length=S.hx.length:=by rw[<-hF.hx];simp
 have a3:∀m∈x.hx,m.cM.length<=64/\∀u∈m.cM,u.m.Ζ.length<=1000000:=λm hm=>by
  have J:=hS m.m (by rw[<-hF.hx];exact Kg hm);exact⟨by have:=J.1;simpa [E8.m] using this,λu hu=>J.2 u.m (Kg hu)⟩
 refine Ih ?_;intros;refine R.υ (A.at (Μ:=Ρ eJ x.hx) (A.refl _)) ?_;refine R.ca (pf x.B8 x.IT x.hx B a3) ?_;rintro _ _⟨I,c',fs,rfl,⟨a2,_,a4⟩,rfl⟩
 have r:fs.length=S.hx.length:=by
  have e:=congrArg List.length a2;rw[ah,ah] at e;omega
 refine Ih ?_;intros;refine KX.a8 aw ?_ ⟨I,c',by rw[r];rfl,rfl⟩;refine A.trans ?_ (gj x hF);simp only[B1];exact ag
def xv{L:LH}(b b' : Nat)(S:Χ)(x:Jl)(hv:S.vs=(x.B8,x.hx))(hS:∀s∈x.hx,s.cM.length<=64/\∀u∈s.cM,u.m.Ζ.length<=1000000)(a2:x.hx.length<=100000) :
  Λ Ε 84 #[.pointer (some ⟨b',0,none⟩)] (aN b S::JH b' S.kQ x L) (λv Y=>∃M cap,v=ae M x.hx.length cap/\Y = aN b S::JH b' S.kQ x L):=by
 refine Λ.bd ?_;refine Δ.c8 (f:=gT b S) ?_;intro y;simp only[gT,B1,bV,JH,aj,ak];refine Δ.d7 ?_;intro hF;have Z:=hF.vw.1.trans hv;rw[Z];refine Ih ?_;intros;refine R.υ (A.at (Μ:=Ρ eJ x.hx) (A.refl _)) ?_;refine R.ca (pf x.B8 x.IT x.hx a2 hS) ?_;rintro _ _⟨I,c',fs,rfl,⟨a3,_,a4⟩,rfl⟩
 have r:fs.length=x.hx.length:=by
  have e:=congrArg List.length a3;rw[ah,ah] at e;exact e
 refine Ih ?_;intros;refine KX.a8 aw ?_ ⟨I,c',by rw[r];rfl,rfl⟩;refine A.trans ?_ (gj y hF);simp only[B1];rw[Z];exact ag
def we{L:LH}(b:Nat)(S:Χ)(k:Nat)(hG:MX k S)(hk:k<=4096)(hS:nV S.ο S.Ι)(r:S.Ι.length<=100000) :
  Λ Ε 21 #[al b] (aN b S::L) (λv Y=>∃M cap hs,v=ae M hs.length cap/\(OZ (PB S) hs/\hs.length<=4194304)/\Y = Υ gE 3 MU M cap hs::aN b S::L):=by
 refine Λ.c9 (g:=gT b S) RQ.1 ?_;intro x;show Λ _ _ _ (dp (M3 S x)::B1 b S.kQ x L) _;refine Λ.c8 RQ.1 ?_;intro hF;have q:=rD (L:=τ cu KH x.mt x.gr::JF da 7 gJ x.B8 x.IT x.hx x.sv::JF ee 11 fS x.A7 x.C4 x.Ι x.fv::τ cu ey.v x.mi x.imp::τ cu ey.v x.mr x.ret::JU x.ζ::Ρ eJ x.hx::Ρ Kw x.Ι::Ρ (λp:Int×ey=>E7 p.2) x.imp::Ρ (λp:Int×ey=>E7 p.2) x.ret::L) b (S.Pz x) x hF.Sf (Di hG hk x) hS r;rw[show(S.Pz x).kQ=S.kQ from rfl] at q;refine(q.pre (by simp only[B1];exact ag)).LO ?_;rintro _ _⟨M,cap,hs,J,U,rfl⟩;refine⟨_,⟨M,cap,hs,J,U,rfl⟩,?_⟩;refine A.trans ?_ (A.c7 (gj x hF));simp only[B1];exact ag
