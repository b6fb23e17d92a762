/- Lemmas. -/
import Derived.Test.YtlgpgjdggilkgaaGreatDoorEtaq
import Derived.ChangeKeysEq
set_option linter.all false
set_option maxHeartbeats 2000000
namespace Go.Proofs.YtlgpgjdggilkgaaGreatDoor
section
open Go.V
attribute [local irreducible] Α GO GP δ ms Ev Ef C0 F CB GB V.Enters
structure Um (s:M0):Prop where
 inp:Sl s
 cap:s.fe.length<=s.iI
 form:(s.fe.length<=1/\∀m∈s.fe,m.m.Β.length<=1)\/(s.fe.length<=3/\∀m∈s.fe,m.m.Β=[])
 C8:(∀m∈s.m.fe,m.Λ≠m.to)->∀a i,ia a i s.m.fe<=1
def za:∀{Q:List A8},(∀m∈Q,m.Β=[])->C5 Q=Q.length
 | [],_=>rfl
 | m::Q,h=>by
  have K:=za (Q:=Q) (λx O=>h x (az _ O));have T:m.Β.length=0:=by rw[h m aA];rfl
  show(m.Β.length+1)+C5 Q=Q.length+1;omega
theorem Um.k{s:M0}(h:Um s):C5 s.m.fe<=3:=by
 have U:s.m.fe.length=s.fe.length:=al _;rcases h.form with⟨K,T⟩|⟨K,T⟩
 .show C5 (s.fe.map J3.m)<=3;match hm:s.fe,K,T with
  | [],_,_=>exact aC _
  | [m],_,T =>
   have:=T m aj
   show(m.m.Β.length+1)+0<=3;omega
 .rw[za (λm hm=>by
   obtain⟨u,hu,rfl⟩:=H9 hm;exact T u hu),U]
  exact K
theorem sf{Q:List J3}(h:∀m∈Q,m.m.Β=[]):(∀m∈Q,m.m.Β.length<=9223372036854775807)/\(∀m∈Q,m.m.Β.length<=m.J2)/\∀m∈Q,∀p∈m.m.Β,p.1<=9223372036854775807 :=
 by grind
def Vm(s:Int):Int×Int:=if s<0 then(0,10) else if 1099511627776<s then(0,4) else(s,0)
def UU(m:A8):Int:=(if m.Λ=0 then m.n else 0) - (if m.to=0 then m.n else 0)
structure WG (B5:Int) (t:List Int):Prop where
 len:t.length=B5.toNat
 bd:∀i,i<t.length->0<=t[i]!/\t[i]!<=1099511627776
theorem Lq{s:Int}(h:(Vm s).2=0):(Vm s).1=s/\0<=s/\s<=1099511627776:=by
 grind [Vm]
theorem WG.set{B5:Int}{t:List Int}(h:WG B5 t){k:Nat}{s:Int}(hs:(Vm s).2=0):WG B5 (t.set k (Vm s).1):=by
 obtain⟨e,b1,b2⟩:=Lq hs;refine⟨by rw[bT];exact h.len,λi hi=>?_⟩;rw[bT] at hi;rw[e,D7 aj,List.getElem_set];split
 .omega
 .have:=h.bd i hi
  grind
end
end Go.Proofs.YtlgpgjdggilkgaaGreatDoor
namespace Go.V
def nY{P:Program}{η:TypeId}(h:P.underlying η=some (.int .i64)):∀w,(isAgg η).run P w=.ok false w:=λw=>by simp[isAgg,run_underlying h]
def ya{P:Program}{Ξ η:Nat}[h:Ud P Ξ 2 η 1][he:QX P η .i64](a b:Int×Int)(w:World):(Op.equal Ξ (D5 a) (D5 b)).run P w=.ok (decide (a=b)) w:=by
 have hE:=he.under;have hi:=h.size;cases O:P.info? η with
 | none=>rw[O] at hi;cases hi
 | some i =>
  have hc:P.cellsOf η=1:=by
   rw[O] at hi;simp[Program.cellsOf,O] at hi ⊢;exact hi
  obtain⟨M,a2⟩:=a;obtain⟨b1,b2⟩:=b;have hq:=run_equalIn_array (P:=P) (w:=w) 9999 #[J M,J a2] #[J b1,J b2] h.under O;have e0:∀(c Μ:Int) (w:World),(part η #[Value.int .i64 c,Value.int .i64 Μ] 0).run P w=.ok (J c) w:=λc Μ w=>iE (nY hE) rfl;have e1:∀(c Μ:Int) (w:World),(part η #[Value.int .i64 c,Value.int .i64 Μ] 1).run P w=.ok (J Μ) w:=λc Μ w=>iE (nY hE) rfl;show(Op.equalIn (9999+1) Ξ (.agg #[J M,J a2]) (.agg #[J b1,J b2])).run P w=_;rw[hq,hc];have q:=λc Μ=>run_equalIn_int (P:=P) w 9998 η .i64 .i64 c Μ hE;rw[show List.range 2=[0,1] from rfl];simp only[Op.eqItems,Sem.run_bind,Nat.zero_mul,Nat.one_mul,e0,e1,Result.andThen_ok,q];by_cases K:M=b1
  .by_cases T:a2=b2
   .simp[K,T,e1,q]
   .simp[K,T,e1,q]
  .simp[K]
theorem S3{P:Program}{Ξ η:Nat}[h:Ud P Ξ 2 η 1][he:QX P η .i64]:QZ P Ξ D5 where
 inj a b h:=by
  simp[D5] at h;exact Prod.ext h.1 h.2
 check e k w:=by
  have hE:=he.under;have e0:∀(c Μ:Int) (w:World),(part η #[Value.int .i64 c,Value.int .i64 Μ] 0).run P w=.ok (J c) w:=λc Μ w=>iE (nY hE) rfl;have e1:∀(c Μ:Int) (w:World),(part η #[Value.int .i64 c,Value.int .i64 Μ] 1).run P w=.ok (J Μ) w:=λc Μ w=>iE (nY hE) rfl;have e2:∀(m:Nat) (c:Int) (w:World),(Instr.checkKey e (m+1) η (J c)).run P w=.ok () w:=λm c w=>by simp[Instr.checkKey,run_underlying hE]
  have B:∀m,(Instr.checkKey e (m+1+1) Ξ (.agg #[J k.1,J k.2])).run P w=.ok () w:=by
   intro m;rw[Instr.checkKey];simp only[Sem.run_bind,run_underlying h.under,Result.andThen_ok];simp[Std.Legacy.Range.forIn_eq_forIn_range',Std.Legacy.Range.size,List.range'_succ,h.Re,e0,e1,e2]
  exact B 9998
 bits k:=by
  have:∀n,Instr.sameBits (n+1) (D5 k) (D5 k)=true:=λn=>by simp[Instr.sameBits,D5]
  exact this 9999
 find k es ks w he':=by
  have hq:∀a b:Int×Int,(Op.equal Ξ (D5 a) (D5 b)).run P w=.ok (decide (a=b)) w:=λa b=>ya a b w;have T:=lH (P:=P) (Ξ:=Ξ) (w:=w) hq k es ks 0 he';simp only[Instr.findKey,Sem.run_bind,run_underlying h.under,Result.andThen_ok];cases es with
  | nil =>
   cases ks with
   | nil=>simp[Instr.findNow]
   | cons _ _=>simp at he'
  | cons x es =>
   cases ks with
   | nil=>simp at he'
   | cons q ks =>
    have hn:Instr.findNow (.array 2 η) (D5 k) (x::es) 0=none:=by simp[Instr.findNow,Instr.sameNow]
    rw[hn];simp only[dw] at T;exact T
end Go.V
namespace Go.Proofs.YtlgpgjdggilkgaaGreatDoor
section
open Go.V
attribute [local irreducible] Α GO GP δ ms Ev Ef C0 F CB GB V.Enters
def WH(f:Int->Int->Int)(a i n:Int):Int->Int->Int:=λx y=>if x=a/\y=i then n else f x y
structure WI (f:Int->Int->Int):Prop where
 bd:∀a i,0<=f a i/\f a i<=1099511627776
 zero:∀i,f 0 i=0
theorem WI.Pu{f:Int->Int->Int}(h:WI f){a i n:Int}(ha:a≠0)(K:0<=n)(T:n<=1099511627776):WI (WH f a i n):=by
 refine⟨λx y=>?_,λy=>?_⟩
 .unfold WH;split
  .omega
  .exact h.bd x y
 .unfold WH;rw[Ν D];exact h.zero y
def UW(s:D6)(m:A8):ο:=if s.Δ=5 then m.Β else[]
def UX(s:D6)(m:A8):ο:=if s.Δ=9/\m.Λ=0 then m.Β else[]
end
end Go.Proofs.YtlgpgjdggilkgaaGreatDoor
namespace Go.V
section
variable {P:Program}{L:Η}{env:Env}{ty:TypeId}
def Ev.v7{t:TypeId}{x hi mx:Operand}{ad:OA}{n c η sz bb:Nat}{z:τ}{k k' : IntKind}{j:Int}[ht:M7 P t η sz bb z](O:cq env x=some (.slice ad n c))(hh:cq env hi=some (.int k j))(hm:cq env mx=some (.int k' j))(h0:0<=j)(K:j<=c):Ev P L env (.slice t x none (some hi) (some mx)) ty (.slice ad j.toNat j.toNat) :=
 Ev.mk (λ_ _ _ w ea _ _ _ _ _=>by
  obtain⟨ii,z0,i1,i2,i3,i4,i5⟩:=ht.Β;have T:j<=(j.toNat:Int):=D;simp[execOp,aJ ea O,aJ ea hh,aJ ea hm,Instr.sliceAt,Instr.slice,run_underlying ht.under,Instr.sliceBounds,Instr.sliceBound,asIntOf,h0,K,T,sizeOf,typeInfo,i1];rw[Χ D];cases ad<;>simp[Addr.add])
end
end Go.V
namespace Go.Proofs.YtlgpgjdggilkgaaGreatDoor
section
open Go.V
attribute [local irreducible] Α GO GP δ ms Ev Ef C0 F CB GB V.Enters
def rb{L:Η}(ad:OA)(n c:Nat)(h:n<=c):Τ Θ 304 #[ah ad n c] L (F3 (ah ad n n) L):=by
 refine Τ.bd ?_;refine Nd ?_;intros;refine GO.ev (Ev.v7 rfl rfl rfl D D) ae ?_;rw[bD];refine Nd ?_;intros;exact KX.en ⟨rfl,rfl⟩
theorem GT{d:Int}{nf:Nat}{hl:Int->Bool}{s:D6}{W:Wk}{m:A8}(hm:SI s.Δ m)(fl:List E3):dm (fl++[gF d nf hl s W m])=dm fl++UW s m/\jM (fl++[gF d nf hl s W m])=jM fl++UX s m:=by
 grind [si,rZ,UW,UX,gF,uF]
end
end Go.Proofs.YtlgpgjdggilkgaaGreatDoor
namespace Go.V
class adb (P:Program) (ac:Nat) (ks:outParam (List Bool)):Prop where
 under:P.underlying ac=some (.struct (P.fieldsOf ac))
 free:P.stoodInHeld ac=false
 guard:P.eqGuardType P.depth ac=false
 Vg : (P.fieldsOf ac).toList.map (λf => (f.name == "_", f.offset, P.underlying f.type)) = (List.range ks.length).map λi => (false, i, some (if ks[i]! then TypeDesc.bool else .int .i64))
end Go.V
namespace Go.Proofs.YtlgpgjdggilkgaaGreatDoor
open Go.V
def wE(S:Ρ)(s:D6):(bM S s).π=S.π:=by unfold bM;split<;>rfl
theorem sr(S:Ρ)(s:D6):∃z,(bM S s).Κ=S.Κ++z:=by
 unfold bM;split
 .exact⟨_,rfl⟩
 .exact⟨[],aj⟩
def GI{d:Int}(h:0<=d/\d<12)(c:B0):SZ 0 (L3 d c) where
 g:={
  D8:=h
  D9:=aC _
  Κ:=an _
  ν:=λ_ _=>⟨an _,(λ_ q=>hD q aG),List.Pairwise.nil⟩
  id:=λ_=>⟨by show -(((0:Nat):Int)*1099511627776)<=0;omega,by show(0:Int)<=1099511627776;omega⟩
  fl:=λ_ q=>hD q aG }
 fa:=λ_ q=>hD q aG
 fn:=λ_ q=>hD q (fN _)
 il:=an _
 rl:=an _
end Go.Proofs.YtlgpgjdggilkgaaGreatDoor
namespace Go.V
section tri
variable {P:Program}{f:FuncId}{args:Array Value}{L:Η}{post post' : Value->Η->Prop}
def Τ.d9{α:Type}{g:α->Η}(he:Enters P f)(h:∀x,Τ P f args (g x++L) post):Τ P f args (hex (λx=>cx (g x))::L) post :=
 ⟨he,λθ R w s=>by
  obtain⟨x,s1⟩:=Sat.TI (show Sat θ (hex (λx=>cx (g x))::(L++R)) w from s);exact(h x).calls θ R w (by rw[aH];exact s1.QB)⟩
def Τ.d8{φ:Prop}(he:Enters P f)(h:φ->Τ P f args L post):Τ P f args (ee φ::L) post :=
 ⟨he,λθ R w s=>(h (Sat.TH (show Sat θ (ee φ::(L++R)) w from s))).calls θ R w s.tail⟩
def Τ.Rs(h:Τ P f args L post)(hp:∀v Γ,post v Γ->∃RM,post' v RM/\F Γ RM):Τ P f args L post' :=
 ⟨h.enters,λθ R w s=>(h.calls θ R w s).mono λ_ _ ⟨v,Γ,a,b,c⟩=>by
  obtain⟨RM,K,T⟩:=hp _ _ b;exact⟨v,RM,a,K,T θ R _ c⟩⟩
def Τ.f5{φ:Prop}(he:Enters P f)(hφ:∀θ R w,Sat θ (L++R) w->φ)(h:φ->Τ P f args L post):Τ P f args L post :=
 ⟨he,λθ R w s=>(h (hφ θ R w s)).calls θ R w s⟩
end tri
end Go.V
namespace Go.Proofs.YtlgpgjdggilkgaaGreatDoor
section
open Go.V
inductive P5 (d:Int) (c:B0):Ρ->Prop
 | zero:P5 d c (L3 d c)
 | post {S:Ρ} {s:D6}:P5 d c S->(E2 S s).1=0->P5 d c (bM S s)
theorem jg{S:Ρ}{s:D6}(h:(E2 S s).1=0):gC S.π S.now s:=by
 grind [E2]
def Um.at{s:M0}(h:Um s)(A:Int):Um (s.at A):=⟨⟨h.inp.kd,h.inp.len,h.inp.K9,h.inp.Β,h.inp.cap,h.inp.bd⟩,h.cap,h.form,h.C8⟩
theorem Aq{α:Type}(f:α->HP)(l:List α):Ψ f l=Ψ (λx:HP=>x) (l.map f):=by
 grind [Ψ,PB]
theorem F.l0{α:Type}{f:α->HP}{l l' : List α}(h:∀y∈l',∃x∈l,f y=f x){L:Η}:F (Ψ f l::L) (Ψ f l'::L):=by
 rw[Aq f l,Aq f l'];refine F.g8 (f:=λx:HP=>x) λx O=>?_;grind
structure Uo (s:M0):Prop where
 inp:Sl s
 cap:s.fe.length<=s.iI
 k:C5 s.m.fe<=4
def vr:∀Q:List A8,Q.length<=C5 Q
 | []=>an _
 | m::Q=>by
  have:=vr Q
  show Q.length+1<=(m.Β.length+1)+C5 Q;omega
def Uo.len{s:M0}(h:Uo s):s.fe.length<=4:=by
 have K:=vr s.m.fe;have T:=h.k;have h3:s.m.fe.length=s.fe.length:=al _;omega
def Um.sp{s:M0}(h:Um s):Uo s:=⟨h.inp,h.cap,by have:=h.k;omega⟩
structure XG (Q ms' : List J3):Prop where
 Zu:∀y∈ms',∃x∈Q,y.pad=x.pad/\y.m.Β=x.m.Β/\y.J2=x.J2
theorem XG.cL{Q B : List J3}(h:XG Q B){L:Η}:F (Ψ Ns Q::L) (Ψ Ns B::L) :=
 F.l0 λy Y=>by
  obtain⟨x,O,e1,e2,_⟩:=h.Zu y Y;grind
def XH(ss B : List M0):Prop:=B = ss\/∃k s',k<ss.length/\Uo s'/\B = ss.set k s'
theorem XH.len{ss B : List M0}(h:XH ss B):B.length=ss.length:=by
 rcases h with rfl|⟨k,s',_,_,rfl⟩
 .rfl
 grind
def Uo.at{s:M0}(h:Uo s)(A:Int):Uo { s with A:=A }:=⟨⟨h.inp.kd,h.inp.len,h.inp.K9,h.inp.Β,h.inp.cap,h.inp.bd⟩,h.cap,h.k⟩
attribute [local irreducible] Α GO GP δ ms GF GE Ev Ef C0 F CB GB V.Enters
end
section
open Go.V
def F.m9{Ο fG:HP}{L:Η}:F (Ο::fG::L) (cx [Ο,fG]::L):=λθ R w s=>Sat.a8 (Ο:=[Ο,fG]) s
def Tt(f:Pv):HP:=cx [Ω aL 3 I7 f.pad f.J2 f.m.Β,Ω (dJ .i64) 1 B7 f.fH f.iI f.m.made]
def ON:Pv:=⟨⟨0,0,0,0,0,0,0,0,0,[],[]⟩,none,0,none,0⟩
def Jl{f:Pv}{L:Η}:F (Pm f::L) (ξ aL 3 f.pad f.m.Β::ξ (dJ .i64) 1 f.fH f.m.made::Pm f::L):=(F.dup (xt f).RQ).trans F.UJ
attribute [local irreducible] Α GO GP δ ms Ev Ef C0 F CB GB V.Enters
abbrev Eg:List K4:=[.ev 0,.ev 1,.ev 3,.ev 4,.ef 2,.ev 6,.ef 5,.ef 7,.ev 8,.ef 9]
def Pp{φ ψ:Prop}(k:ψ)(h:Hid ψ->φ:=by intro k;(repeat (first|refine ab ?_|intro B6|refine Α.dr 12 1 Eg ?_));(repeat revert B6);exact Hid.out k):φ:=h ⟨k⟩
def Ah{L:Η}(f:Pv)(K:f.m.Β.length<=1000000)(T:f.m.made.length<=1000000) :
  Τ Θ 53 #[bF (ft f)] (Pm f::L) (λv Γ=>∃f',v=bF (ft f')/\f'.m=f.m/\Γ = Tt f'::Pm f::L):=by
 obtain⟨⟨i1,i2,i3,i4,i5,i6,i7,i8,i9,Β,made⟩,pad,J2,fH,iI⟩:=f;dsimp only at K T;refine Τ.bd (args:=[bF (ft ⟨⟨i1,i2,i3,i4,i5,i6,i7,i8,i9,Β,made⟩,pad,J2,fH,iI⟩)]) ?_;refine Α.cL Jl ?_;dsimp only;refine Pp ?_;intros;refine δ.ca (jx pad Β.length J2 Β rfl K) ?_;rintro _ _⟨a2,B,rfl,rfl⟩;refine Pp ?_;intros;refine δ.ca (xh fH made.length iI made rfl T) ?_;rintro _ _⟨a3,M,rfl,rfl⟩;refine Pp ?_;intros;refine KX.a8 (by exact C7.cell rfl bh (C7.nil)) ?_ ⟨⟨⟨i1,i2,i3,i4,i5,i6,i7,i8,i9,Β,made⟩,a2,B,a3,M⟩,rfl,rfl,rfl⟩;refine F.trans (fG:=Ω aL 3 I7 a2 B Β::Ω (dJ .i64) 1 B7 a3 M made::Pm ⟨⟨i1,i2,i3,i4,i5,i6,i7,i8,i9,Β,made⟩,pad,J2,fH,iI⟩::L) ak ?_;exact F.m9
end
section
open Go.V
def Pd(x y:h2):Int:=max 0 (y.2.1 - x.2.1)
def Q5(x y:h2):Int:=min (x.2.2 - Pd x y) (y.2.1+y.2.2 - (x.2.1+Pd x y))
def Sp(x y:h2):h2:=(x.1,x.2.1+Pd x y+Q5 x y,x.2.2 - Pd x y - Q5 x y)
def Q6:ο->h2->List (h2×Bool)
 | [],x=>if 0<x.2.2 then[(x,false)] else[]
 | y::ys,x =>
  if 0<x.2.2/\y.1=x.1/\y.2.1<x.2.1+x.2.2 then
   (if 0<Pd x y then[((x.1,x.2.1,Pd x y),false)] else[])++(((x.1,x.2.1+Pd x y,Q5 x y),true)::Q6 ys (Sp x y))
  else if 0<x.2.2 then[(x,false)] else[]
def NU(x y:h2):Prop:=x.1<y.1\/(y.1=x.1/\x.2.1<y.2.1+y.2.2)
instance (x y:h2):Decidable (NU x y):=by unfold NU;infer_instance
def Rh(x:h2):ο->ο
 | []=>[]
 | y::ys=>if NU x y then y::ys else Rh x ys
def OC(set:ο)(x:h2):List (h2×Bool):=Q6 (Rh x set) x
theorem xT(x:h2):∀{set:ο} {i:Nat},i<=set.length->(∀p,p<i->¬NU x set[p]!)->(i<set.length->NU x set[i]!)->set.drop i=Rh x set
 | [],i,_,_,_=>by rw[List.drop_nil];rfl
 | y::ys,0,_,_,h=>by
  grind [Rh]
 | y::ys,i+1,hi,K,T=>by
  have h0:¬NU x y:=K 0 (Nat.succ_pos _);show ys.drop i=if NU x y then y::ys else Rh x ys;rw[Ν h0];refine xT x (by simpa using hi) (λp hp=>K (p+1) D) (λq=>T (by simpa using q))
theorem ve(x:h2):∀set:ο,∃l,set=l++Rh x set/\∀y∈l,¬NU x y
 | []=>⟨[],rfl,λ_ h=>by cases h⟩
 | y::ys=>by
  by_cases h:NU x y
  .exact⟨[],by grind [Rh],λ_ h=>by cases h⟩
  .obtain⟨l,K,T⟩:=ve x ys;grind [Rh]
def pq(x:h2):∀{set:ο},set.Pairwise sl->(∀y∈set,a0 y)->∀y∈Rh x set,NU x y
 | [],_,_,_,h=>by cases h
 | y::ys,hs,ho,z,hz=>by
  rw[List.pairwise_cons] at hs;change z∈(if NU x y then y::ys else Rh x ys) at hz;by_cases h:NU x y
  .rw[Χ h] at hz;rcases Nj hz with rfl|hz
   .exact h
   .have K:=hs.1 z hz;have T:=ho z (az _ hz);unfold NU at h ⊢;unfold sl at K;unfold a0 at T;omega
  .rw[Ν h] at hz;exact pq x hs.2 (λw hw=>ho w (az _ hw)) z hz
theorem yI{ys:ο}{x:h2}(h:¬0<x.2.2):Q6 ys x=[]:=by
 cases ys with
 | nil=>exact Ν h
 | cons y ys=>exact(Ν (λq=>h q.1)).trans (Ν h)
def ja(l:List (h2×Bool)):ο:=(l.filter (λq=>!q.2)).map Prod.fst
def PG(l:List (h2×Bool)):ο:=(l.filter (λq=>q.2)).map Prod.fst
theorem Gf(a b:List (h2×Bool)):ja (a++b)=ja a++ja b:=by grind [ja]
theorem IC(a b:List (h2×Bool)):PG (a++b)=PG a++PG b:=by grind [PG]
def Cv{x y:h2}{ys:ο}(h:0<x.2.2/\y.1=x.1/\y.2.1<x.2.1+x.2.2):Q6 (y::ys) x=(if 0<Pd x y then[((x.1,x.2.1,Pd x y),false)] else[])++(((x.1,x.2.1+Pd x y,Q5 x y),true)::Q6 ys (Sp x y)):=Χ h
theorem sQ{x y:h2}{ys:ο}(h0:0<x.2.2)(h:¬(y.1=x.1/\y.2.1<x.2.1+x.2.2)):Q6 (y::ys) x=[(x,false)]:=(Ν (λq=>h q.2)).trans (Χ h0)
theorem LV:∀{ys:ο} {x:h2},a0 x->(∀y∈ys,a0 y)->ys.Pairwise sl->(∀y∈ys,NU x y)->(PG (Q6 ys x)≠[]↔∃y∈ys,¬apart y x)
 | [],x,O,_,_,_=>by
  unfold a0 at O;rw[show Q6 [] x=[(x,false)] from Χ D];exact⟨λh=>hD rfl h,aj⟩
 | y::ys,x,O,ho,hs,hp=>by
  unfold a0 at O;rw[List.pairwise_cons] at hs;have Y:=ho y aj;unfold a0 at Y;have B:=hp y aj;unfold NU at B;by_cases c:y.1=x.1/\y.2.1<x.2.1+x.2.2
  .grind [aA,apart,PG,Q6]
  .rw[sQ D c];refine⟨λh=>hD rfl h,λ⟨w,hw,hn⟩=>hD ?_ hn⟩;grind [apart,sl]
structure S4 (z:ο):Prop where
 ok:∀y∈z,a0 y
 sl:z.Pairwise sl
theorem LW{set:ο}(h:S4 set){x:h2}(O:a0 x):PG (OC set x)≠[]↔∃y∈set,¬apart y x:=by
 obtain⟨l,K,T⟩:=ve x set;have hk:=pq x h.sl h.ok;have M:∀y∈Rh x set,a0 y:=λy Y=>h.ok y aj
 have B:(Rh x set).Pairwise sl:=by
  have:=h.sl
  rw[K] at this;exact aj
 grind [OC,LV,NU,apart]
theorem Gd:∀{ys:ο} {x:h2},J9 x->(∀y∈ys,a0 y)->(∀y∈ys,NU x y)->ys.Pairwise sl->(∀q∈Q6 ys x,a0 q.1)/\(Q6 ys x).length<=2*ys.length+1
 | [],x,O,_,_,_=>by
  grind [J9,Q6,a0]
 | y::ys,x,O,ho,hp,hs=>by
  rw[List.pairwise_cons] at hs;have Y:=ho y aj;unfold a0 at Y;have M:=hp y aj;unfold NU at M;have B:∀w∈ys,a0 w:=aj;have a2:=O;unfold J9 at a2;by_cases h:0<x.2.2
  .by_cases c:y.1=x.1/\y.2.1<x.2.1+x.2.2
   .rw[Cv ⟨h,c⟩];have hw:J9 (Sp x y):=by unfold J9 Sp Q5 Pd;dsimp only;omega
    obtain⟨i1,i2⟩:=Gd (ys:=ys) hw B (by grind [sl,a0,NU,Sp,Q5]) hs.2;grind [a0,Pd,Q5]
   grind [sQ,a0]
  grind [yI]
theorem Ge{set:ο}(h:S4 set){x:h2}(O:a0 x):(∀q∈OC set x,a0 q.1)/\(OC set x).length<=2*set.length+1:=by
 obtain⟨l,K,T⟩:=ve x set;have hk:=pq x h.sl h.ok;have M:∀y∈Rh x set,a0 y:=λy Y=>h.ok y aj
 have B:(Rh x set).Pairwise sl:=by
  have:=h.sl
  rw[K] at this;exact aj
 obtain⟨i1,i2⟩:=Gd O.w M hk B;grind [OC]
def PV(s:ο)(x:h2):ο :=
 if s.length≠0/\s[s.length - 1]!.1=x.1/\x.2.1<=s[s.length - 1]!.2.1+s[s.length - 1]!.2.2 then
  s.set (s.length - 1) (s[s.length - 1]!.1,s[s.length - 1]!.2.1,max s[s.length - 1]!.2.2 (x.2.1+x.2.2 - s[s.length - 1]!.2.1))
 else s++[x]
def N5(ys:ο):ο:=ys.foldl PV []
theorem HU{r:ο}{l x:h2}(h:l.1=x.1/\x.2.1<=l.2.1+l.2.2):PV (r++[l]) x=r++[(l.1,l.2.1,max l.2.2 (x.2.1+x.2.2 - l.2.1))]:=by
 grind [PV]
theorem JZ{r:ο}{l x:h2}(h:¬(l.1=x.1/\x.2.1<=l.2.1+l.2.2)):PV (r++[l]) x=r++[l]++[x]:=by
 grind [PV]
theorem lE(a b:ο):aY (a++b)=aY a+aY b:=by
 induction a with
 | nil=>rw[ax,jR];omega
 | cons x a ih=>grind [gB]
structure ZI (s P:ο):Prop where
 ok:∀y∈s,a0 y
 sl:s.Pairwise sl
 len:s.length<=P.length
 nil:s=[]->P=[]
 top:∀r l,s=r++[l]->(∀y∈P,y.1<l.1\/(y.1=l.1/\y.2.1+y.2.2<=l.2.1+l.2.2))/\(∃y∈P,y.1=l.1/\y.2.1=l.2.1)/\∃y∈P,y.1=l.1/\y.2.1+y.2.2=l.2.1+l.2.2
 le:aY s<=aY P
 eq:aY s=aY P->L7 P/\∀t,a0 t->OV s t=OV P t
 ap:L7 P->aY s=aY P
theorem sJ{r r' : ο}{l l' : h2}(h:r++[l]=r'++[l']):r=r'/\l=l':=by
 grind [List.append_inj']
theorem Vn{P:ο}{x:h2}:L7 (P++[x])↔L7 P/\∀y∈P,apart y x:=by
 constructor
 .intro h;obtain⟨K,_,h3⟩:=List.pairwise_append.1 h;exact⟨K,λy Y=>aj⟩
 .rintro⟨K,T⟩;exact List.pairwise_append.2 ⟨K,dD _ _,λy Y w hw=>by rw[F6 hw];exact T y Y⟩
theorem ZI.step{s P:ο}(h:ZI s P)(hP:∀y∈P,a0 y){x:h2}(O:a0 x)(ho:∀y∈P,y.1<x.1\/(y.1=x.1/\y.2.1<=x.2.1)):ZI (PV s x) (P++[x]):=by
 have a7:=O;unfold a0 at a7;rcases List.eq_nil_or_concat s with rfl|⟨r,l,rfl⟩
 .have hp:=h.nil rfl;subst hp;have e:PV [] x=[x]:=by unfold PV;rw[Ν aj];rfl
  rw[e,ax];refine⟨aj,aj,an _,aj,λr l q=>?_,bE _,λ_=>⟨dD _ _,λ_ _=>rfl⟩,λ_=>rfl⟩;grind [sJ]
 rw[List.concat_eq_append] at h ⊢;obtain⟨t1,⟨a,ha,a9,b0⟩,⟨b,hb,b1,b2⟩⟩:=h.top r l rfl;have b3:=ho a ha;have U:=h.ok l aj;unfold a0 at U;have b5:=List.pairwise_append.1 h.sl;have b4:∀y∈r,Go.Proofs.YtlgpgjdggilkgaaGreatDoor.sl y l:=aj;have M:=h.len;have a6:=h.le;rw[ay,aX] at M;rw[lE,fZ] at a6;have B:aY (P++[x])=aY P+x.2.2:=by rw[lE,fZ]
 have a2:∀t,OV (P++[x]) t=OV P t+ov x t:=λt=>by rw[ge,je]
 by_cases c:l.1=x.1/\x.2.1<=l.2.1+l.2.2
 .rw[HU c];obtain⟨N,hN⟩:∃N,N=max l.2.2 (x.2.1+x.2.2 - l.2.1):=⟨_,rfl⟩;rw[<-hN];have hs:aY (r++[((l.1,l.2.1,N):h2)])=aY r+N:=by rw[lE,fZ]
  have he:=h.eq;have a4:=h.ap;rw[lE,fZ] at he a4;refine⟨λy Y=>?_,?_,aj,(λq=>by simp at q),λr2 l2 q=>?_,D,λq=>?_,λq=>?_⟩
  .rcases J8 Y with Y|Y
   .exact h.ok y aj
   grind [a0]
  .grind [Go.Proofs.YtlgpgjdggilkgaaGreatDoor.sl]
  .grind [sJ]
  .rw[hs,B] at q;obtain⟨e1,e2⟩:=he D;have a5:x.2.1=l.2.1+l.2.2:=D;have a3:N=l.2.2+x.2.2:=D;refine⟨Vn.2 ⟨e1,λy Y=>?_⟩,λt ht=>?_⟩
   .grind [apart]
   .have e3:=e2 t ht;rw[ge,je] at e3;unfold a0 at ht
    have e4:ov (l.1,l.2.1,N) t=ov l t+ov x t:=by
     rw[a3,rD,yQ t l.1 l.2.1 l.2.2 x.2.2 D D D,rD l t,rD x t,<-a5,c.1];have k1:((x.1,l.2.1,l.2.2):h2)=l:=aj;rw[k1]
    rw[ge,je,a2,e4];omega
  grind [Vn,apart]
 .rw[JZ c];have hs:aY (r++[l]++[x])=aY (r++[l])+x.2.2:=by rw[lE,fZ]
  refine⟨λy Y=>?_,?_,aj,(λq=>by simp at q),λr2 l2 q=>?_,by rw[hs,B,lE,fZ];omega,λq=>?_,λq=>?_⟩
  .rcases J8 Y with Y|Y
   .exact h.ok y Y
   grind
  .grind [Go.Proofs.YtlgpgjdggilkgaaGreatDoor.sl]
  .grind [sJ]
  .rw[hs,B] at q;obtain⟨e1,e2⟩:=h.eq D;refine⟨Vn.2 ⟨e1,λy Y=>?_⟩,λt ht=>?_⟩
   .grind [apart]
   .rw[ge,je,a2,e2 t ht]
  .rw[hs,B,h.ap (Vn.1 q).1]
theorem xy:∀(F5:ο) {s P:ο},ZI s P->(∀y∈P++F5,a0 y)->(P++F5).Pairwise (λa b=>¬Q4 b a<0)->ZI (F5.foldl PV s) (P++F5)
 | [],s,P,h,_,_=>aj
 | x::F5,s,P,h,U,hs=>by
  have e:P++x::F5=(P++[x])++F5:=by simp
  have hP:∀y∈P,a0 y:=λy Y=>U y (cI _ Y);have O:=U x (cw _ aA)
  have K:ZI (PV s x) (P++[x]):=h.step hP O λy Y=>by
   have:=(List.pairwise_append.1 hs).2.2 y Y x aA
   rw[qQ] at this;unfold SX at this;omega
  rw[e] at U hs ⊢;exact xy F5 K U hs
theorem xx{ps ys:ο}(h:gW Q4 ps ys)(U:∀x∈ps,a0 x):S4 (N5 ys)/\(N5 ys).length<=ps.length/\(aY (N5 ys)=aY ps↔L7 ps)/\(L7 ps->∀t,a0 t->OV (N5 ys) t=OV ps t):=by
 have Y:∀x∈ys,a0 x:=λx O=>U x (h.1.mem_iff.1 O);have h0:ZI [] []:=⟨aj,.nil,an _,(λ_=>rfl),(λr l q=>by simp at q),bE _,λ_=>⟨.nil,λ_ _=>rfl⟩,λ_=>rfl⟩;have z:ZI (N5 ys) ys:=xy ys h0 Y h.2;have pa:L7 ps↔L7 ys:=(h.1.pairwise_iff (λ {a b} q=>by unfold apart at *;omega)).symm;have B:aY ys=aY ps:=Gx h.1;refine⟨⟨z.ok,z.sl⟩,by rw[<-h.1.length_eq];exact z.len,?_,λq t ht=>?_⟩
 .rw[<-B,pa];exact⟨λq=>(z.eq q).1,z.ap⟩
 .rw[(z.eq (z.ap (pa.1 q))).2 t ht];exact LG h.1 t
end
end Go.Proofs.YtlgpgjdggilkgaaGreatDoor
namespace Go.V
def uV(ad:OA):Prop:=∃a,ad=some a
theorem Ev.c7{P:Program}{L:Η}{env:Env}{ty:TypeId}{x:Operand}{ad:OA}{sz j o:Nat}(O:cq env x=some (.pointer (Pb ad sz j o)))(h:uV ad):Ev P L env (.nilCheck x) ty (.pointer (Pb ad sz j o)):=by
 obtain⟨g,rfl⟩:=h;exact Ev.nilCheck (a:=Addr.add g (j*sz+o)) O
def pI{α:Type}{Ε:α->τ}{sz η:Nat}{ad:OA}{cap:Nat}{I:List α}{L R' : Η}[h:Se L ad α Ε sz η cap I R'](h0:0<I.length):∀θ R w,Sat θ (L++R) w->uV ad:=λθ R w s=>by
 have s1:Sat θ (Ω Ε sz η ad cap I::(R'++R)) w:=s.perm (h.perm.append_right R);obtain⟨_,K,_,T⟩:=s1.QY;rcases T with⟨_,h3⟩|⟨g,B,h3,_⟩
 .omega
 .exact⟨_,h3⟩
end Go.V
namespace Go.Proofs.YtlgpgjdggilkgaaGreatDoor
open Go.V
attribute [local irreducible] Α GO GP δ ms Ev Ef C0 F CB GB V.Enters
abbrev DZ:=Ze [.ev 17,.ev 18,.ev 19,.ev 20,.ev 21,.ev 22,.ev 23,.ev 24,.ev 25,.ev 26,.ev 27,.ev 28,.ev 29,.ev 30]
abbrev DY:=Zc [.ev 10,.ef 11]
def Ps{φ ψ:Prop}(k:ψ)(h:Hid ψ->φ:=by intro k;(repeat (first|refine ab ?_|intro B6|refine Α.dr 59 4 DZ ?_|refine Α.dr 59 5 DY ?_));(repeat revert B6);exact Hid.out k):φ:=h ⟨k⟩
theorem vY{L:Η}(ad:OA)(cap:Nat)(I:ο)(x:h2)(U:I.length<=100000000)(a7:∀y∈I,J9 y)(O:J9 x) :
  Τ Θ 105 #[ah ad I.length cap,bF (aL x)] (Ω aL 3 I7 ad cap I::L) (λv Γ=>∃a4 a2,v=ah a4 (bH I x).length a2/\Γ = Ω aL 3 I7 a4 a2 (bH I x)::L):=by
 refine Τ.bd ?_;simp only[aL];by_cases h0:x.2.2=0
 .have e:bH I x=I:=by unfold bH;rw[Χ h0]
  rw[e];refine Ps ?_;intros;exact KX.en ⟨ad,cap,rfl,rfl⟩
 by_cases K:I.length=0
 .have e:bH I x=I++[x]:=by unfold bH;rw[Ν h0,Ν D]
  rw[e];refine Ps ?_;intros;refine GO.ef (Ef.a8 (Ε:=aL) (e:=x) rfl rfl rfl rfl rfl bh (fX _) D D) ae ?_;rintro _ _⟨M,B,rfl,rfl⟩;refine Ps ?_;intros;exact KX.en ⟨M,B,rfl,rfl⟩
 have a3:((I.length:Int) - 1).toNat=I.length - 1:=D;have a5:=a7 _ (bA (D:I.length - 1<I.length));rw[<-a3] at a5;unfold J9 at a5 O;by_cases hc:lM x I[((I.length:Int) - 1).toNat]!
 .have a6:=TL.1 hc;obtain⟨a9,b0⟩:=a6
  have e:bH I x=I.set ((I.length:Int) - 1).toNat (I[((I.length:Int) - 1).toNat]!.1,I[((I.length:Int) - 1).toNat]!.2.1,I[((I.length:Int) - 1).toNat]!.2.2+x.2.2):=by
   unfold bH;rw[a3] at hc ⊢;rw[Ν h0,Χ ⟨K,hc⟩]
  rw[e];refine Ps ?_;intros;refine δ.NH (Ef.d7 (e:=((I[((I.length:Int) - 1).toNat]!.1,I[((I.length:Int) - 1).toNat]!.2.1,I[((I.length:Int) - 1).toNat]!.2.2+x.2.2):h2)) rfl rfl bh rfl D ae) ?_;rintro _ _ rfl;refine Ps ?_;intros;exact KX.a8 aF ak ⟨ad,cap,by rw[bT];rfl,rfl⟩
 .have e:bH I x=I++[x]:=by
   unfold bH;rw[a3] at hc;rw[Ν h0,Ν aj]
  rw[e];rw[TL] at hc;by_cases hf:x.1=I[((I.length:Int) - 1).toNat]!.1
  .have ha:¬x.2.1=I[((I.length:Int) - 1).toNat]!.2.1+I[((I.length:Int) - 1).toNat]!.2.2:=D;refine Ps ?_;intros;refine GO.ef (Ef.a8 (Ε:=aL) (e:=x) rfl rfl rfl rfl rfl bh (fX _) D D) ae ?_;rintro _ _⟨M,B,rfl,rfl⟩;refine Ps ?_;intros;exact KX.en ⟨M,B,rfl,rfl⟩
  .refine Ps ?_;intros;refine GO.ef (Ef.a8 (Ε:=aL) (e:=x) rfl rfl rfl rfl rfl bh (fX _) D D) ae ?_;rintro _ _⟨M,B,rfl,rfl⟩;refine Ps ?_;intros;exact KX.en ⟨M,B,rfl,rfl⟩
abbrev DX:=YZ [.ev 5,.ev 6,.ev 7,.ev 8,.ef 4,.ef 9,.ef 10,.ef 11,.ev 12]
def PC{φ ψ:Prop}(k:ψ)(h:Hid ψ->φ:=by intro k;(repeat (first|refine ab ?_|intro B6|refine Α.dr 17 1 DX ?_));(repeat revert B6);exact Hid.out k):φ:=h ⟨k⟩
def FN{L:Η}(x y:h2):Τ Θ 118 #[bF (aL x),bF (aL y)] L (F3 (J (Q4 x y)) L):=by
 refine Τ.bd ?_;refine PC ?_;intros;refine δ.cr (kr x.1 y.1) ?_;refine PC ?_;intros;refine δ.cr (kr x.2.1 y.2.1) ?_;refine PC ?_;intros;rename_i bc;refine δ.cL (F.d9 (Ε:=dJ .i64) (sz:=1) (I:=[PD x.1 y.1,PD x.2.1 y.2.1]) rfl rfl (λ_ _=>rfl) cj) ?_;refine δ.cr (pJ (some ⟨bc,0,none⟩) 2 (PD x.1 y.1) (PD x.2.1 y.2.1)) ?_;refine PC ?_;intros;exact KX.en ⟨rfl,rfl⟩
def xQ{η cap:Nat}{ad:OA}{I:ο}(B:I.length<4611686018427387904) :
  Τ Θ 117 #[ah ad I.length cap,.func (.func 118) #[] #[]] [Ω aL 3 η ad cap I] (λv Γ=>v=.tuple #[]/\∃ys,gW Q4 I ys/\Γ = [Ω aL 3 η ad cap ys]) :=
 Τ.a8 (ρ:=Tryz.XB) Tryz.Zr (k:=3) Tryz.isAgg47 Tryz.sizeOf47 (λ_=>rfl) fX (Lc:=[]) Q4 CN MW Y8.1 (λ_ _ _=>trivial) (λx y=>(FN (L:=[]) x y).mono (λ_ _ h=>h.1)) B
def qo{ys:ο}{k:Nat}(h:k<ys.length):N5 (ys.take (k+1))=PV (N5 (ys.take k)) ys[k]!:=ka PV [] h
theorem JY(s:ο)(x:h2):(PV s x).length<=s.length+1:=by
 grind [PV]
def xw(ys:ο):∀k,k<=ys.length->(N5 (ys.take k)).length<=k
 | 0,_=>an _
 | k+1,h=>by
  have K:=xw ys k D;have T:=JY (N5 (ys.take k)) ys[k]!;rw[qo D];omega
def Fu{ys:ο}(hw:∀y∈ys,a0 y):∀k,k<=ys.length->∀y∈N5 (ys.take k),a0 y
 | 0,_=>λ_ h=>by cases h
 | k+1,h=>by
  have K:=Fu hw k D;have O:=hw _ (bA (D:k<ys.length));rw[qo D];generalize ys[k]! = x at O;generalize N5 (ys.take k)=s at K;unfold a0 at O;unfold PV;split
  .rename_i hc;intro y Y;rcases List.mem_or_eq_of_mem_set Y with Y|rfl
   .exact K y Y
   .have:=K _ (bA (D:s.length - 1<s.length))
    unfold a0 at this ⊢;dsimp only;omega
  .intro y Y;rcases J8 Y with Y|Y
   .exact K y Y
   .rw[F6 Y];unfold a0;omega
abbrev Ga:=Ze [.ev 17,.ev 18,.ev 19,.ev 20,.ev 21,.ev 22,.ev 23,.ev 24,.ev 25,.ev 26,.ev 27,.ev 28,.ev 29,.ev 30]
abbrev DW:=Ze [.ev 17,.ef 18]
def PH{φ ψ:Prop}(k:ψ)(h:Hid ψ->φ:=by intro k;(repeat (first|refine ab ?_|intro B6|refine Α.dr 80 8 Ga ?_|refine Α.dr 80 10 DW ?_));(repeat revert B6);exact Hid.out k):φ:=h ⟨k⟩
def qu{L:Η}(ad:OA)(n c:Nat)(I:ο)[F2 L ad h2 aL 3 I](hn:n=I.length)(U:I.length<=100000)(hw:∀x∈I,a0 x) :
  Τ Θ 56 #[ah ad n c] L (λv Γ=>∃b2 a5 ys,v=ah b2 (N5 ys).length a5/\gW Q4 I ys/\Γ = Ω aL 3 I7 b2 a5 (N5 ys)::L):=by
 subst hn;refine Τ.bd ?_;refine PH ?_;intros;refine GO.ca (jx ad I.length c I rfl D) ?_;rintro _ _⟨a2,c1,rfl,rfl⟩;refine PH ?_;intros;(first|refine GO.ef (Ef.call (xQ (η:=I7) (ad:=a2) (cap:=c1) (I:=I) D) rfl fQ) ae ?_);rintro _ _⟨_,⟨rfl,ys,b1,rfl⟩,hL⟩;simp only[au,ax] at hL;subst hL;have c2:=b1.1.length_eq;have b6:∀y∈ys,a0 y:=λy Y=>hw y (b1.1.mem_iff.1 Y);rw[<-c2];refine PH ?_;intros;refine Α.cL (Γ:=Ω aL 3 I7 none 0 []::Ω aL 3 I7 a2 c1 ys::L) (F.c8 aL 3 I7) ?_;refine Α.loop (α:=Nat×OA×Nat) (λg=>g.1<=ys.length) (λg=>[(4,ah g.2.1 (N5 (ys.take g.1)).length g.2.2),(13,ah a2 ys.length c1),(14,J ys.length),(15,J (g.1:Int))]) (λg=>Ω aL 3 I7 g.2.1 g.2.2 (N5 (ys.take g.1))::Ω aL 3 I7 a2 c1 ys::L) (λg=>ys.length - g.1) (0,none,0) D aD (F.refl _) ?_;rintro⟨k,a3,M⟩ hk;dsimp only at hk ⊢;by_cases b8:k<ys.length
 case neg =>
  rw[aM D];refine PH ?_;intros;exact KX.en ⟨a3,M,ys,rfl,b1,rfl⟩
 have b7:(k:Int).toNat=k:=D;have b0 : (k:Int).toNat<ys.length:=D;have O:=b6 _ (bA b0);have et:=qo b8;rw[show ys[k]! = ys[(k:Int).toNat]! by rw[b7]] at et;have b9:=xw ys k D;have b4:=Fu b6 k D;obtain⟨x,b5⟩:∃x,ys[(k:Int).toNat]! = x:=⟨_,rfl⟩;rw[b5] at O et;generalize N5 (ys.take k)=s at b9 b4 et ⊢;have c0:=O;unfold a0 at c0;refine Α.c8 (show ∀θ R w,Sat θ ((Ω aL 3 I7 a3 M s::Ω aL 3 I7 a2 c1 ys::L)++R) w->(0<s.length->uV a3) from λθ R w q h0=>pI (ad:=a3) (cap:=M) (I:=s) (Ε:=aL) (sz:=3) (η:=I7) h0 θ R w q) ?_;intro a7;refine PH ?_;intros;rw[b5];simp only[aL];by_cases K:s.length=0
 .have e:PV s x=s++[x]:=by unfold PV;rw[Ν D]
  refine PH ?_;intros;refine GO.ef (Ef.a8 (Ε:=aL) (e:=x) rfl rfl rfl rfl rfl bh (fX _) D D) ae ?_;rintro _ _⟨a4,B,rfl,rfl⟩;refine PH ?_;intros;refine⟨(k+1,a4,B),by dsimp only;omega,by dsimp only;omega,?_,?_⟩
  .dsimp only;rw[et,e,bC k];exact aD
  .dsimp only;rw[et,e];exact ak
 have a6:=a7 D;have a9:((s.length:Int) - 1).toNat=s.length - 1:=D;have b3:=b4 _ (bA (D:s.length - 1<s.length));rw[<-a9] at b3;unfold a0 at b3;by_cases hc:s[((s.length:Int) - 1).toNat]!.1=x.1/\x.2.1<=s[((s.length:Int) - 1).toNat]!.2.1+s[((s.length:Int) - 1).toNat]!.2.2
 .have e:PV s x=s.set ((s.length:Int) - 1).toNat (s[((s.length:Int) - 1).toNat]!.1,s[((s.length:Int) - 1).toNat]!.2.1,max s[((s.length:Int) - 1).toNat]!.2.2 (x.2.1+x.2.2 - s[((s.length:Int) - 1).toNat]!.2.1)):=by
   unfold PV;rw[a9] at hc ⊢;rw[Χ ⟨K,hc⟩]
  obtain⟨c3,c4⟩:=hc;refine PH ?_;intros;refine δ.M8 (Ev.c7 rfl a6) ae ?_;refine PH ?_;intros;refine δ.M8 (Ev.c7 rfl a6) ae ?_;refine PH ?_;intros;refine δ.M8 (Ev.c7 rfl a6) ae ?_;refine PH ?_;intros;refine δ.NH (Ef.d7 (e:=((s[((s.length:Int) - 1).toNat]!.1,s[((s.length:Int) - 1).toNat]!.2.1,max s[((s.length:Int) - 1).toNat]!.2.2 (x.2.1+x.2.2 - s[((s.length:Int) - 1).toNat]!.2.1)):h2)) rfl rfl bh rfl D ae) ?_;rintro _ _ rfl;refine PH ?_;intros;refine⟨(k+1,a3,M),by dsimp only;omega,D,?_,?_⟩
  .dsimp only;rw[et,e,bT,bC k];exact aD
  .dsimp only;rw[et,e];exact ak
 have e:PV s x=s++[x]:=by
  unfold PV;rw[a9] at hc;rw[Ν D]
 by_cases hf:s[((s.length:Int) - 1).toNat]!.1=x.1
 .have ha:¬x.2.1<=s[((s.length:Int) - 1).toNat]!.2.1+s[((s.length:Int) - 1).toNat]!.2.2:=D;refine PH ?_;intros;refine GO.ef (Ef.a8 (Ε:=aL) (e:=x) rfl rfl rfl rfl rfl bh (fX _) D D) ae ?_;rintro _ _⟨a4,B,rfl,rfl⟩;refine PH ?_;intros;refine⟨(k+1,a4,B),by dsimp only;omega,by dsimp only;omega,?_,?_⟩
  .dsimp only;rw[et,e,bC k];exact aD
  .dsimp only;rw[et,e];exact ak
 .refine PH ?_;intros;refine GO.ef (Ef.a8 (Ε:=aL) (e:=x) rfl rfl rfl rfl rfl bh (fX _) D D) ae ?_;rintro _ _⟨a4,B,rfl,rfl⟩;refine PH ?_;intros;refine⟨(k+1,a4,B),by dsimp only;omega,by dsimp only;omega,?_,?_⟩
  .dsimp only;rw[et,e,bC k];exact aD
  .dsimp only;rw[et,e];exact ak
