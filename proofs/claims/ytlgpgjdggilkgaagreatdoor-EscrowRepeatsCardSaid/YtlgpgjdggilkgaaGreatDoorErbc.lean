/- Lemmas. -/
import Derived.Test.YtlgpgjdggilkgaaGreatDoorErbb
set_option linter.all false
set_option maxHeartbeats 4000000
namespace Go.Proofs.YtlgpgjdggilkgaaGreatDoor
section
open Go.V
attribute [local irreducible] Δ R GP Ο h2 O Ef A8 A CB GB V.Enters
end
section
open Go.V
abbrev B2:Nat:=147
structure J6 (d:Int) (c:D4) (k:Nat) (S:Χ):Prop where
 rep:M0 d c S
 a:MG k S
 now:0<=S.now
 ζ:S.ζ=c
 ok:c.Ok
 d:S.kQ=d
def Dz(S:Χ)(s:C8):(bP S s).kQ=S.kQ:=by
 unfold bP;split
 .rfl
 .rfl
def J6.post{d:Int}{c:D4}{k:Nat}{S:Χ}(h:J6 d c k S)(s:C8)(hk:k+C2 s.cM<=2000):J6 d c (k+C2 s.cM) (bP S s):=by
 have hA:=(zS (s:=s) h.a hk).1;by_cases q:(E2 S s).1=0
 .have e:bP S s=eX S s:=μ q;exact⟨.post h.rep q,hA,by rw[e];exact Dx (iv q) h.now,(DA _ _).trans h.ζ,h.ok,(Dz _ _).trans h.d⟩
 .have e:bP S s=S:=Ω q;rw[e] at hA ⊢;exact⟨h.rep,hA,h.now,h.ζ,h.ok,h.d⟩
def cw(lb:Nat)(d Q ω hl:Int)(mb mp mr:Nat):LV:=[al lb,E d,E Q,E ω,E hl,.map (some mb),.map (some mp),.map (some mr)]
def Jz(Κ G:Int)(T:List G0)(cU:OA)(fH:Nat):E8:=⟨0,Κ,0,G,-1,0,T,cU,fH⟩
noncomputable def kL(S:Χ)(s:C8):List Int:=((bP S s).Ι.drop S.Ι.length).map (·.F)
attribute [local irreducible] Δ R GP Ο h2 GF GE O Ef A8 A CB GB V.Enters
abbrev yr:=Uu [.ev 4,.ef 5,.ev 6,.ev 7,.ev 8,.ev 9,.ev 10]
def OE{φ ψ:Prop}(k:ψ)(h:Hid ψ->φ:=by intro k;(repeat (first|refine aa ?_|intro sh|refine Δ.dr 55 3 yr ?_));(repeat revert sh);exact Hid.out k):φ:=h ⟨k⟩
theorem rt{L:LH}(nb lb:Nat)(d Q ω hl:Int)(mb mp mr:Nat)(c:D4)(k:Nat)(S:Χ)(hS:J6 d c k S)(Κ G:Int)(T:List G0)(cU:OA)(fH:Nat)(hs:MZ (Jz Κ G T cU fH))(a4:T.length<=fH)(hk:k+C2 (T.map G0.m)<=2000) :
  Λ Ε 146 #[al nb,E Κ,E G,ae cU T.length fH] (obj nb B2 (cw lb d Q ω hl mb mp mr)::aN lb S::stM (Jz Κ G T cU fH)::IK (Jz Κ G T cU fH)::L) (λv Y =>
   ((E2 S (Jz Κ G T cU fH).m).1=0/\∃A7 C4,v=.tuple #[ae A7 (kL S (Jz Κ G T cU fH).m).length C4,.bool true]/\Y = Υ (a0 .i64) 1 kR A7 C4 (kL S (Jz Κ G T cU fH).m)::obj nb B2 (cw lb d Q ω hl mb mp mr)::aN lb (bP S (Jz Κ G T cU fH).m)::stM (Jz Κ G T cU fH)::IK (Jz Κ G T cU fH)::L) \/
   ((E2 S (Jz Κ G T cU fH).m).1≠0/\v=.tuple #[ae none 0 0,.bool false]/\Y = obj nb B2 (cw lb d Q ω hl mb mp mr)::aN lb S::stM (Jz Κ G T cU fH)::IK (Jz Κ G T cU fH)::L)):=by
 have b3:S.ζ.Ok:=by rw[hS.ζ];exact hS.ok
 have c5:=hS.a.g.Ι;have d0:=hS.a.g.hx;have r:=λξ:LH=>jQ (L:=ξ) lb S k hS.a b3 hS.now (Jz Κ G T cU fH) hs a4 hk qY;have a7:=hS.post (Jz Κ G T cU fH).m hk;have c3:=qb S (Jz Κ G T cU fH).m;have a5:=λh:(E2 S (Jz Κ G T cU fH).m).1=0=>(qE (s:=(Jz Κ G T cU fH).m) hS.a hk h).2;have c1:(E2 S (Jz Κ G T cU fH).m).1≠0->bP S (Jz Κ G T cU fH).m=S:=λh=>Ω h;have I:(E2 S (Jz Κ G T cU fH).m).1=0->(bP S (Jz Κ G T cU fH).m).Ι=S.Ι++(E2 S (Jz Κ G T cU fH).m).2.Ι:=by grind [bP,eX]
 refine Λ.bd ?_;simp only[cw];refine OE ?_;intros;generalize TV:Jz Κ G T cU fH=s at *;have b1:da s=[E 0,E Κ,E 0,E G,E (-1),E 0,ae cU T.length fH]:=by rw[<-TV];rfl
 refine R.υ (Y:=aN lb S::(obj nb B2 [al lb,E d,E Q,E ω,E hl,.map (some mb),.map (some mp),.map (some mr)]::stM s::IK s::L)) ag ?_;refine R.cr (sB lb S) ?_;by_cases he:(E2 S s.m).1=0
 case neg =>
  have a6:=c1 he;obtain⟨w,hw⟩:∃w,(E2 S s.m).1=w:=⟨_,rfl⟩;rw[a6,hw] at r;rw[b1] at r;have d1:w≠0:=by rw[<-hw];exact he
  refine OE ?_;intros;rename_i a2;refine Ο.υ (Y:=aN lb S::stM s::IK s::(obj a2 gJ [E 0,E Κ,E 0,E G,E (-1),E 0,ae cU T.length fH]::obj nb B2 [al lb,E d,E Q,E ω,E hl,.map (some mb),.map (some mp),.map (some mr)]::L)) ag ?_;refine Ο.cr (r _) ?_;refine OE ?_;intros;exact KX.en (.inr ⟨he,rfl,rfl⟩)
 rw[he,b1] at r;have b7:(bP S s.m).Ι.drop S.Ι.length=(E2 S s.m).2.Ι:=by rw[I he,List.drop_left]
 obtain⟨c2,b9⟩:=a5 he;have c0:s.m.cM.length<=64:=c2.2.2.2.1.2;have b5:(bP S s.m).Ι.length=S.Ι.length+s.m.cM.length:=by rw[I he,aq,b9]
 have b4:∀f∈(bP S s.m).Ι.drop S.Ι.length,f.Ζ.length<=1000000/\f.made.length<=1000000:=λf hf=>by
  have J:=dC hf;have U:=(a7.a.g.fl f J).2;have h3:=a7.rep.made f J;omega
 refine OE ?_;intros;rename_i a2;refine Ο.υ (Y:=aN lb S::stM s::IK s::(obj a2 gJ [E 0,E Κ,E 0,E G,E (-1),E 0,ae cU T.length fH]::obj nb B2 [al lb,E d,E Q,E ω,E hl,.map (some mb),.map (some mp),.map (some mr)]::L)) ag ?_;refine Ο.cr (r _) ?_;refine OE ?_;intros;refine R.υ (Y:=aN lb (bP S s.m)::(stM s::IK s::obj nb B2 [al lb,E d,E Q,E ω,E hl,.map (some mb),.map (some mp),.map (some mr)]::L)) ag ?_;refine R.ca (sA lb (bP S s.m) S.Ι.length B b4 B) ?_;rintro _ _⟨A7,C4,fs,rfl,a9,rfl⟩
 have b6:fs.length=s.m.cM.length:=by
  have:=congrArg List.length a9
  rw[ah,ck] at this;omega
 refine OE ?_;intros;refine Δ.loop (α:=Nat×OA×Nat) (λg=>g.1<=fs.length) (λg=>[(14,ae g.2.1 ((fs.take g.1).map (·.m.F)).length g.2.2),(42,ae A7 fs.length C4),(43,E (fs.length:Int)),(44,E (g.1:Int))]) (λg=>Υ (a0 .i64) 1 kR g.2.1 g.2.2 ((fs.take g.1).map (·.m.F))::Υ ee 11 fS A7 C4 fs::aN lb (bP S s.m)::stM s::IK s::obj nb B2 [al lb,E d,E Q,E ω,E hl,.map (some mb),.map (some mp),.map (some mr)]::L) (λg=>fs.length - g.1) (0,none,0) B aA ?_ ?_
 .dsimp only;rw[aU,aY];refine(A.c8 (a0 .i64) 1 kR).trans ?_;exact ag
 rintro⟨i,F3,G3⟩ hi;dsimp only at hi ⊢;have c6:((fs.take i).map (·.m.F)).length=i:=by rw[ah,aK];omega
 by_cases b0:i<fs.length
 case neg =>
  have hN:(fs.take i).map (·.m.F)=kL S s.m:=by
   unfold kL;rw[<-a9,cO,aG B];rfl
  rw[hN];refine OE ?_;intros;exact KX.en (.inl ⟨he,F3,G3,rfl,rfl⟩)
 have b8:(i:Int).toNat=i:=B
 have c4:(fs.take (i+1)).map (·.m.F)=(fs.take i).map (·.m.F)++[fs[i]!.m.F]:=by
  rw[av b0,aL,C5 b0];rfl
 refine OE ?_;intros;rw[b8];refine R.ef (Ef.a8 (Β:=a0 .i64) (e:=fs[i]!.m.F) rfl rfl rfl rfl rfl aS (ga _ _) B B) ac ?_;rintro _ _⟨b2,a3,rfl,rfl⟩;rw[<-c4];refine OE ?_;intros;refine⟨(i+1,b2,a3),by dsimp only;omega,B,?_,by exact ag⟩;dsimp only;rw[bC i];exact aA
end
end Go.Proofs.YtlgpgjdggilkgaaGreatDoor
namespace Go.V
section
variable {P:Program}{N:Nat}{env:Env}{L:LH}{ty:TypeId}{κ α:Type}[DecidableEq κ]
theorem O.z8{t:TypeId}{x y:Operand}{Ν Τ:Nat}{z r:Value}(kv:κ->Value){k:κ}[ht:K0 P t Ν Τ z][hk:LQ P Ν kv](K:χ env x=some (.map none))(Z:χ env y=some r)[I:Nb kv r k] :
  O P L env (.lookup t x y false) ty z :=
 O.mk (λθ Α _ w ea s _ _ _ _=>by
  obtain rfl:=I.eq;have h3:=ht.zero;have hf:=nS (P:=P) (Ν:=Ν) (kv:=kv) (Β:=λv:Value=>v) (m:=[]) (es:=#[]) k w rfl;simp at hf;cases hi:P.info? Τ with
  | none=>grind
  | some i =>
   rw[hi] at h3;simp at h3;simp[execOp,aH ea K,aH ea Z,Instr.lookup,run_underlying ht.under,hk.check,zeroValue,typeInfo,hi,h3,hf])
omit [DecidableEq κ] in
def O.OP{t:TypeId}{x:Operand}{b Ν Τ:Nat}{z:Value}{kv:κ->Value}{Β:α->Value}{m:List (κ×α)}{D8:LH}[ht:K0 P t Ν Τ z][hp:KQ L b κ α kv Β m D8](K:χ env x=some (.map (some b))) :
  O P L env (.call { callee:=.builtin .len,args:=#[x],argTypes:=#[t] }) ty (E (m.length:Int)) :=
 O.mk (λθ Α _ w ea s _ _ _ _=>by
  obtain⟨es,r,e1,e2,e3,e4,e5,s2⟩:=(s.perm (hp.perm.append_right Α)).Nu;have hb:=s2.IN;have I:(getObj b).run P w=.ok (.map es r) w:=by simp[getObj,Sem.run,hb]
  have hl:es.size=m.length:=by
   have:=congrArg List.length e1
   simpa using this
  simp[execOp,resolve,invoke,builtin,aH ea K,Builtin.len_,run_underlying ht.under,goInt,I,hl])
theorem O.f9{t:TypeId}{x:Operand}{M:OA}{sz j o n:Nat}{α:Type}[Inhabited α]{Β:α->LV}{D:List α}{vs:LV}[ht:Jb P t n][hr:C7 L M α Β sz D]
  (K:χ env x=some (.pointer (Ks M sz j o))) (hj:j<D.length) (hs:Nd o n (Β D[j]!) some=some vs):O P L env (.load t x) ty (.agg vs.toArray) :=
 O.mk (λθ Α _ w ea s _ _ _ _=>by
  obtain⟨q1,q2⟩:=pw _ _ _ _ _ hs;simp only[Option.some.injEq] at q2;subst q2;obtain⟨J,U⟩:=hr.rd θ Α w s;rcases U with U|⟨a,rfl,h3⟩
  .grind
  .have I:(Β D[j]!).length=sz:=ay;have a2:=λk (hk:k<sz)=>lN (Β:=Β) (sz:=sz) (D:=D) (j:=j) (o:=k) J hj hk;generalize Β D[j]! = cs at *;have hl:=run_loadCells_list (P:=P) w (a.add (j*sz+o)) ((cs.drop o).take n) (by grind [Addr.add]);have r:((cs.drop o).take n).length=n:=by simp;omega
   rw[r] at hl;simp[execOp,aH ea K,Ks,Instr.loadAt,Instr.sureAddr,loadVar,ht.run,Jb.L5,hl])
end
end Go.V
namespace Go.Proofs.YtlgpgjdggilkgaaGreatDoor
section
open Go.V
abbrev hy:Nat:=98
abbrev KL:Nat:=150
structure xs where
 Ψ:Int
 to:Int
 ct:IF
 deriving Inhabited,DecidableEq
structure JQ where
 m:xs
 M:OA
 cap:Nat
 deriving Inhabited
def aV(x:JQ):LV:=[E x.m.Ψ,E x.m.to,ae x.M (IQ x.m.ct).length x.cap]
def dG(x:JQ):∀u∈aV x,u.oneCell' = true:=by simp[aV,Value.oneCell']
instance:Mf aV:=⟨dG⟩
abbrev cV(x:JQ):HP:=ε (a0 .u8) 1 x.M (IQ x.m.ct)
def ed(x:JQ):JJ (cV x):=cA _ _ _ _
def bE(b:Bool):Value:=.bool b
def I3(l:List Int):List (Int×Bool):=l.map λg=>(g,true)
def uI(k:Int):∀l:List Int,((dV (I3 l) k).map bE).getD (.bool false)=.bool (dB (k∈l))
 | []=>by rw[bj (λh=>iW h aD)];rfl
 | g::l=>by
  by_cases h:k=g
  .subst h;rw[bI az];simp[I3,bE,dV]
  .have U:(k == g)=false:=by simpa using h
   have ih:=uI k l;rw[show dB (k∈g::l)=dB (k∈l) by rw[dd,dd];simp[h],<-ih];unfold I3 dV;rw[aF,cj];simp only[U]
structure JR where
 b:Nat
 Η:List IL
 ad:OA
 fe:Nat
 B3:List Int
 Jh:OA
 LG:Nat
 Ev:Int
 G5:List Int
 mv:Nat
 told:List Int
 mt:Nat
 dec:Bool
 I4:Bool
 deriving Inhabited
def Jn(x:JR):LV:=[ae x.ad x.Η.length x.fe,ae x.Jh x.B3.length x.LG,E x.Ev,.map (some x.mv),.map (some x.mt),.bool x.dec,.bool x.I4]
attribute [local irreducible] Δ R GP Ο h2 GF GE O Ef A8 A CB GB V.Enters
abbrev yq:=Uv [.ef 6,.ev 7,.ef 8]
def ON{φ ψ:Prop}(k:ψ)(h:Hid ψ->φ:=by intro k;(repeat (first|refine aa ?_|intro sh|refine Δ.dr 15 1 yq ?_));(repeat revert sh);exact Hid.out k):φ:=h ⟨k⟩
def eC{L:LH}(nb lb:Nat)(d Q ω hl:Int)(mb mp mr:Nat)(to:Int)(c:Ko)(hc:Kp c.m) :
  Λ Ε 148 #[al nb,E to,bh (dS c)] (obj nb B2 (cw lb d Q ω hl mb mp mr)::ID c::L) (λv Y=>∃x:JQ,v=bh (aV x)/\x.m=⟨d,to,c.m⟩/\Y = cV x::obj nb B2 (cw lb d Q ω hl mb mp mr)::ID c::L):=by
 refine Λ.bd ?_;simp only[cw];refine ON ?_;intros;rename_i bc br;refine Ο.υ (Y:=ID c::(obj br hy [E 0,E 0,ae none 0 0]::obj nb B2 [al lb,E d,E Q,E ω,E hl,.map (some mb),.map (some mp),.map (some mr)]::L)) ag ?_;refine Ο.ca (yR c hc) ?_;rintro _ _⟨M,cap,rfl,rfl⟩;refine ON ?_;intros;refine KX.a8 (by exact B6.cell rfl aS (B6.nil)) ?_ ⟨⟨⟨d,to,c.m⟩,M,cap⟩,rfl,rfl,rfl⟩;refine(A.at (Μ:=Υ (a0 .u8) 1 5 M cap (IQ c.m)) A.JC).trans ?_;exact ag
def cJ(d:Int)(gs:List Int)(W:List Int)(ct:IF):List xs:=(gs.filter λg=>decide (¬g∈W)).map λg=>⟨d,g,ct⟩
def xq(d:Int)(gs W:List Int)(ct:IF){i:Nat}(h:i<gs.length):cJ d (gs.take (i+1)) W ct=cJ d (gs.take i) W ct++(if gs[i]!∈W then[] else[⟨d,gs[i]!,ct⟩]):=by
 unfold cJ;rw[av h,List.filter_append,aL,C5 h];congr 1;by_cases q:gs[i]∈W
 .rw[μ q];simp[q]
 .rw[Ω q];simp[q]
theorem jJ(d:Int)(gs W:List Int)(ct:IF):(cJ d gs W ct).length<=gs.length:=by
 unfold cJ;rw[ah];exact dN _ _
def ld{L:LH}(nb lb:Nat)(d Q ω hl:Int)(mb mp mr:Nat)(x:JR)(hg:x.B3.length<=100)(c:Ko)(hc:Kp c.m)(mw:Option Nat)(W:List Int)(hW:(mw=none/\W=[])\/∃b Α,mw=some b/\L=τ cu bE b (I3 W)::Α) :
  Λ Ε 114 #[al nb,.pointer (some ⟨x.b,0,none⟩),bh (dS c),.map mw] (obj nb B2 (cw lb d Q ω hl mb mp mr)::ID c::obj x.b KL (Jn x)::ε (a0 .i64) 1 x.Jh x.B3::L) (λv Y=>∃M cap T,v=ae M T.length cap/\T.map (·.m)=cJ d x.B3 W c.m/\Y = Υ aV 3 hy M cap T::Ρ cV T::obj nb B2 (cw lb d Q ω hl mb mp mr)::ID c::obj x.b KL (Jn x)::ε (a0 .i64) 1 x.Jh x.B3::L):=by
 refine Λ.bd ?_;simp only[cw,Jn];refine Ih ?_;intros;rename_i b6;refine Δ.loop (α:=Nat×OA×Nat×List JQ) (λg=>g.1<=x.B3.length/\g.2.2.2.map (·.m)=cJ d (x.B3.take g.1) W c.m) (λg=>[(0,al nb),(3,.map mw),(6,al b6),(9,ae g.2.1 g.2.2.2.length g.2.2.1),(15,ae x.Jh x.B3.length x.LG),(16,E (x.B3.length:Int)),(17,E (g.1:Int))]) (λg=>Υ aV 3 hy g.2.1 g.2.2.1 g.2.2.2::Ρ cV g.2.2.2::obj b6 Kb (dS c)::obj nb B2 [al lb,E d,E Q,E ω,E hl,.map (some mb),.map (some mp),.map (some mr)]::ID c::obj x.b KL [ae x.ad x.Η.length x.fe,ae x.Jh x.B3.length x.LG,E x.Ev,.map (some x.mv),.map (some x.mt),.bool x.dec,.bool x.I4]::ε (a0 .i64) 1 x.Jh x.B3::L) (λg=>x.B3.length - g.1) (0,none,0,[]) ⟨aC _,by dsimp only;rw[aU];rfl⟩ aA ?_ ?_
 .dsimp only;refine(A.a8 cV).trans ((A.c8 aV 3 hy).trans ?_);exact ag
 rintro⟨i,M,cap,T⟩ ⟨hi,I⟩;dsimp only at hi I ⊢
 have a7:T.length<=100:=by
  have J:=congrArg List.length I;have U:=jJ d (x.B3.take i) W c.m;rw[ah] at J;rw[aK] at U;omega
 by_cases a6:i<x.B3.length
 case neg =>
  rw[aG B] at I;refine Ih ?_;intros;exact KX.en ⟨M,cap,T,rfl,I,rfl⟩
 have a4:(i:Int).toNat=i:=B;have a2:=xq d x.B3 W c.m a6;refine Ih ?_;intros;rw[a4];rcases hW with⟨rfl,rfl⟩|⟨b,Α,rfl,rfl⟩
 .refine R.ev (O.z8 cu rfl rfl) ac ?_;have hq:¬x.B3[i]!∈([]:List Int):=aD;rw[Ω hq] at a2;refine Ih ?_;intros;refine R.υ (Y:=obj nb B2 [al lb,E d,E Q,E ω,E hl,.map (some mb),.map (some mp),.map (some mr)]::ID c::(Υ aV 3 hy M cap T::Ρ cV T::obj b6 Kb (dS c)::obj x.b KL [ae x.ad x.Η.length x.fe,ae x.Jh x.B3.length x.LG,E x.Ev,.map (some x.mv),.map (some x.mt),.bool x.dec,.bool x.I4]::ε (a0 .i64) 1 x.Jh x.B3::L)) ag ?_;refine R.ca (eC nb lb d Q ω hl mb mp mr x.B3[i]! c hc) ?_;rintro _ _⟨y,rfl,Z,rfl⟩;simp only[cw];refine Ih ?_;intros;refine R.ef (Ef.a8 (Β:=aV) (e:=y) rfl rfl rfl rfl rfl aS (dG _) B B) ac ?_;rintro _ _⟨a3,r,rfl,rfl⟩;refine Ih ?_;intros;refine⟨(i+1,a3,r,T++[y]),⟨by dsimp only;omega,by dsimp only;rw[aL,I,a2,aF,aY,Z]⟩,by dsimp only;omega,?_,?_⟩
  .dsimp only;rw[bC i];exact aA
  .dsimp only;refine(A.at (Μ:=cV y) (A.d7 (f:=cV) ed)).trans ?_;refine(A.at (Μ:=Ρ cV [y]) (A.refl _)).trans ?_;refine(A.at (Μ:=Ρ cV T) (A.refl _)).trans ?_;refine(A.c9 (f:=cV) ed).trans ?_;exact ag
 .refine R.ev (O.j5 rfl rfl) ac ?_;have a5:=uI x.B3[i]! W;rw[show(Option.map bE (List.lookup x.B3[i]! (I3 W))).getD (.bool false)=.bool (dB (x.B3[i]!∈W)) from a5];by_cases hq:x.B3[i]!∈W
  .rw[μ hq,aJ] at a2;rw[bI hq];refine Ih ?_;intros;refine⟨(i+1,M,cap,T),⟨by dsimp only;omega,by dsimp only;rw[a2,I]⟩,by dsimp only;omega,?_,by exact ag⟩;dsimp only;rw[bC i];exact aA
  .rw[Ω hq] at a2;rw[bj hq];refine Ih ?_;intros;refine R.υ (Y:=obj nb B2 [al lb,E d,E Q,E ω,E hl,.map (some mb),.map (some mp),.map (some mr)]::ID c::(Υ aV 3 hy M cap T::Ρ cV T::obj b6 Kb (dS c)::obj x.b KL [ae x.ad x.Η.length x.fe,ae x.Jh x.B3.length x.LG,E x.Ev,.map (some x.mv),.map (some x.mt),.bool x.dec,.bool x.I4]::ε (a0 .i64) 1 x.Jh x.B3::τ cu bE b (I3 W)::Α)) ag ?_;refine R.ca (eC nb lb d Q ω hl mb mp mr x.B3[i]! c hc) ?_;rintro _ _⟨y,rfl,Z,rfl⟩;simp only[cw];refine Ih ?_;intros;refine R.ef (Ef.a8 (Β:=aV) (e:=y) rfl rfl rfl rfl rfl aS (dG _) B B) ac ?_;rintro _ _⟨a3,r,rfl,rfl⟩;refine Ih ?_;intros;refine⟨(i+1,a3,r,T++[y]),⟨by dsimp only;omega,by dsimp only;rw[aL,I,a2,aF,aY,Z]⟩,by dsimp only;omega,?_,?_⟩
   .dsimp only;rw[bC i];exact aA
   .dsimp only;refine(A.at (Μ:=cV y) (A.d7 (f:=cV) ed)).trans ?_;refine(A.at (Μ:=Ρ cV [y]) (A.refl _)).trans ?_;refine(A.at (Μ:=Ρ cV T) (A.refl _)).trans ?_;refine(A.c9 (f:=cV) ed).trans ?_;exact ag
end
section
open Go.V
abbrev Jv:Nat:=197
abbrev JA:Nat:=155
structure B0 where
 bB:G7
 eZ:Int
 state:Int
 Ι:List Int
 deriving Inhabited,DecidableEq
structure D5 where
 bB:IL
 eZ:Int
 state:Int
 Ι:List Int
 A7:OA
 C4:Nat
 deriving Inhabited
def D5.m(o:D5):B0:=⟨o.bB.m,o.eZ,o.state,o.Ι⟩
def cY(o:D5):LV:=[E o.bB.m.d,E o.bB.m.fr,E o.bB.m.ts,E o.bB.m.to,ae o.bB.M o.bB.m.am.length o.bB.cap,E o.eZ,E o.state,ae o.A7 o.Ι.length o.C4]
def DI(o:D5):∀u∈cY o,u.oneCell' = true:=by simp[cY,Value.oneCell']
def G6(o:D5):HP:=Nf (gy o.bB) (ε (a0 .i64) 1 o.A7 o.Ι)
def nA(o:D5):JJ (G6 o):=JJ.and (eD _) (cA _ _ _ _)
def CV{o:D5}{L:LH}:A (G6 o::L) (gy o.bB::ε (a0 .i64) 1 o.A7 o.Ι::L):=A.OM
def Ma(o:B0):Prop:=kC o.bB/\id o.eZ/\o.Ι.length<=1000/\∀f∈o.Ι,id f
def gW(d F:Int)(o:B0):xs:=⟨d,o.bB.ts,⟨5,F,o.eZ,false,[o.bB],o.Ι⟩⟩
def lD{F:Int}{o:B0}(r:id F)(h:Ma o):Kp (⟨5,F,o.eZ,false,[o.bB],o.Ι⟩:IF):=by
 obtain⟨J,U,h3,h4⟩:=h;exact⟨⟨by dsimp only;unfold id;omega,r,U⟩,by simp,λl hl=>by rw[D6 hl];exact J,h3,h4⟩
attribute [local irreducible] Δ R GP Ο h2 GF GE O Ef A8 A CB GB V.Enters
abbrev Bp:=Uv [.ev 6,.ef 7,.ef 8]
def ep{φ ψ:Prop}(k:ψ)(h:Hid ψ->φ:=by intro k;(with_reducible apply Δ.a8);first|refine Δ.dr 31 2 Bp (Hid.out k)):φ:=h ⟨k⟩
def OQ{φ ψ:Prop}(k:ψ)(h:Hid ψ->φ:=by intro k;(repeat (first|refine aa ?_|intro sh|refine ep ?_));(repeat revert sh);exact Hid.out k):φ:=h ⟨k⟩
def nW{L:LH}(nb lb:Nat)(d Q ω hl:Int)(mb mp mr:Nat)(F:Int)(r:id F)(pad:OA)(hA:rR pad)(os:List D5)[hr:C7 L pad D5 cY 8 os](i:Nat)(hi:i<os.length)(o:D5)(ho:os[i]! = o)(I:Ma o.m) :
  Λ Ε 98 #[al nb,E F,.pointer (Ks pad 8 i 0)] (obj nb B2 (cw lb d Q ω hl mb mp mr)::G6 o::L) (λv Y=>∃x:JQ,v=bh (aV x)/\x.m=gW d F o.m/\Y = cV x::obj nb B2 (cw lb d Q ω hl mb mp mr)::G6 o::L):=by
 subst ho;refine Λ.bd ?_;refine Δ.υ (A.at (Μ:=G6 os[i]!) ((A.dup (nA os[i]!).Mx).trans CV)) ?_;simp only[cw];repeat first|refine Δ.sn 1 ?_|refine cR ?_|intro _|refine ep ?_
 rename_i b6;refine Δ.c7 (α:=Nat×Nat) (λ_=>True) (λz=>[(0,al nb),(1,E F),(2,.pointer (Ks pad 8 i 0)),(6,al b6),(7,.pointer (some ⟨z.2,0,none⟩))]) (λz=>obj z.2 Kb [E 5,E F,E os[i]!.eZ,.bool false,ae (some ⟨z.1,0,none⟩) 1 1,ae os[i]!.A7 os[i]!.Ι.length os[i]!.C4]::obj z.1 KT (aW os[i]!.bB)::obj b6 hy [E 0,E 0,ae none 0 0]::gy os[i]!.bB::ε (a0 .i64) 1 os[i]!.A7 os[i]!.Ι::G6 os[i]!::obj nb B2 [al lb,E d,E Q,E ω,E hl,.map (some mb),.map (some mp),.map (some mr)]::L) ?_ ?_
 .refine Δ.d9 mixed Γ ?_;refine GF.H6 (i:=0) rfl Γ (O.move rfl) ac ?_;refine GF.H6 (i:=1) rfl Γ (O.move rfl) ac ?_;refine GF.H6 (i:=2) rfl Γ (by first|exact O.nilCheck rfl|exact O.c7 rfl hA) ac ?_;refine GF.Js (i:=3) rfl Γ (by first|exact O.fieldAddr rfl|exact O.c8 rfl B|exact O.f5 rfl) ac ?_;refine GF.Js (i:=4) rfl Γ (by first|exact O.d8 rfl rfl|exact O.d7 rfl aS|exact O.c9 rfl rfl|exact O.d9 rfl B|exact O.f9 rfl B rfl|exact O.f8 rfl B ac rfl) ac ?_;refine GF.H6 (i:=5) rfl Γ (O.move rfl) ac ?_;refine GF.H6 (i:=6) rfl Γ (by first|exact O.nilCheck rfl|exact O.c7 rfl hA) ac ?_;refine GF.Js (i:=7) rfl Γ (by first|exact O.fieldAddr rfl|exact O.c8 rfl B|exact O.f5 rfl) ac ?_;refine GF.Js (i:=8) rfl Γ (by first|exact O.d8 rfl rfl|exact O.d7 rfl aS|exact O.c9 rfl rfl|exact O.d9 rfl B|exact O.f9 rfl B rfl|exact O.f8 rfl B ac rfl) ac ?_;refine GF.H6 (i:=10) rfl Γ (O.move rfl) ac ?_;refine GF.H6 (i:=11) rfl Γ (by first|exact O.nilCheck rfl|exact O.c7 rfl hA) ac ?_;refine GF.Js (i:=12) rfl Γ (by first|exact O.fieldAddr rfl|exact O.c8 rfl B|exact O.f5 rfl) ac ?_;refine GF.Js (i:=13) rfl Γ (by first|exact O.d8 rfl rfl|exact O.d7 rfl aS|exact O.c9 rfl rfl|exact O.d9 rfl B|exact O.f9 rfl B rfl|exact O.f8 rfl B ac rfl) ac ?_;refine GF.a8 9 15 Γ ?_ ?_
  .refine GE.ef rfl (Ef.lit rfl rfl ac aS) ac ?_;rintro _ _⟨bl,rfl,rfl⟩;refine⟨(by intro pe hp;simp only[dL,aD,or_false] at hp;rcases hp with rfl|rfl|rfl|rfl|rfl|rfl<;>first|exact O.fieldAddr rfl|exact O.c8 rfl B|exact O.d8 rfl rfl|exact O.d7 rfl aS|exact O.c9 rfl rfl|exact O.d9 rfl B|exact O.f9 rfl B rfl|exact O.f8 rfl B ac rfl),?_⟩;refine GF.kP [.ev 14,.ef 15,.ef 16] Γ rfl ?_;refine OQ ?_;intros;repeat first|with_reducible apply h2.nil|((with_reducible apply h2.a8);first|refine h2.drop rfl ?_|refine h2.keep (by first|exact O.d8 rfl rfl|exact O.fieldAddr rfl|exact O.c8 rfl B|exact O.f9 rfl B rfl|exact O.f8 rfl B ac rfl) ?_)
   refine OQ ?_;intros;rename_i bc;exact⟨(bl,bc),trivial,aA,by exact ag⟩
  .refine GE.ef rfl Ef.alloc ac ?_;rintro _ _⟨bc,rfl,rfl⟩;refine⟨(by intro pe hp;simp only[dL,aD,or_false] at hp;rcases hp with rfl|rfl|rfl|rfl|rfl|rfl<;>first|exact O.fieldAddr rfl|exact O.c8 rfl B|exact O.d8 rfl rfl|exact O.d7 rfl aS|exact O.c9 rfl rfl|exact O.d9 rfl B|exact O.f9 rfl B rfl|exact O.f8 rfl B ac rfl),?_⟩;refine GF.kP [.ef 9,.ev 14,.ef 16] Γ rfl ?_;refine OQ ?_;intros;repeat first|with_reducible apply h2.nil|((with_reducible apply h2.a8);first|refine h2.drop rfl ?_|refine h2.keep (by first|exact O.d8 rfl rfl|exact O.fieldAddr rfl|exact O.c8 rfl B|exact O.f9 rfl B rfl|exact O.f8 rfl B ac rfl) ?_)
   refine OQ ?_;intros;rename_i bl;exact⟨(bl,bc),trivial,aA,by exact ag⟩
 rintro⟨bl,bc⟩ _;dsimp only;have hc:Kp (⟨5,F,os[i]!.eZ,false,[os[i]!.bB.m],os[i]!.Ι⟩:IF):=lD r I;refine Δ.υ (Y:=ID ⟨5,F,os[i]!.eZ,false,[os[i]!.bB],some ⟨bl,0,none⟩,1,os[i]!.Ι,os[i]!.A7,os[i]!.C4⟩::obj bc Kb [E 5,E F,E os[i]!.eZ,.bool false,ae (some ⟨bl,0,none⟩) 1 1,ae os[i]!.A7 os[i]!.Ι.length os[i]!.C4]::obj b6 hy [E 0,E 0,ae none 0 0]::G6 os[i]!::obj nb B2 [al lb,E d,E Q,E ω,E hl,.map (some mb),.map (some mp),.map (some mr)]::L) ?_ ?_
 .refine(A.at (Μ:=obj bl KT (aW os[i]!.bB)) (A.d9 (Β:=aW) (sz:=5) (D:=[os[i]!.bB]) (n:=1) (by simp only[aR,cH,aJ]) rfl (by intro x K;rfl) ac)).trans ?_;refine A.JC.trans ?_;refine(A.at (Μ:=gy os[i]!.bB) (A.d7 (f:=gy) eD)).trans ?_;refine A.trans (cq:=ε aW 5 (some ⟨bl,0,none⟩) [os[i]!.bB]::Nf (Ρ gy [os[i]!.bB]) (ε (a0 .i64) 1 os[i]!.A7 os[i]!.Ι)::_) ?_ (A.g8 (cA _ _ _ _) (JJ.and (eg eD) (cA _ _ _ _)));refine A.trans (cq:=Ρ gy [os[i]!.bB]::ε (a0 .i64) 1 os[i]!.A7 os[i]!.Ι::ε aW 5 (some ⟨bl,0,none⟩) [os[i]!.bB]::_) ag ?_;exact(A.g8 (eg eD) (cA _ _ _ _)).trans A.swap
 refine OQ ?_;intros;refine Ο.H6 (O.c7 rfl hA) ac ?_;refine OQ ?_;intros;refine Ο.υ (Y:=obj nb B2 [al lb,E d,E Q,E ω,E hl,.map (some mb),.map (some mp),.map (some mr)]::ID ⟨5,F,os[i]!.eZ,false,[os[i]!.bB],some ⟨bl,0,none⟩,1,os[i]!.Ι,os[i]!.A7,os[i]!.C4⟩::(obj b6 hy [E 0,E 0,ae none 0 0]::G6 os[i]!::L)) ag ?_;refine Ο.ca (eC nb lb d Q ω hl mb mp mr os[i]!.bB.m.ts ⟨5,F,os[i]!.eZ,false,[os[i]!.bB],some ⟨bl,0,none⟩,1,os[i]!.Ι,os[i]!.A7,os[i]!.C4⟩ hc) ?_;rintro _ _⟨y,rfl,Z,rfl⟩;simp only[cw];refine OQ ?_;intros;exact KX.a8 (by exact B6.cell rfl aS (B6.nil)) ag ⟨y,rfl,Z,rfl⟩
