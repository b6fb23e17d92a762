/- Lemmas. -/
import Derived.Test.YtlgpgjdggilkgaaGreatDoorEraj
set_option linter.all false
set_option maxHeartbeats 1000000
namespace Go.Proofs.YtlgpgjdggilkgaaGreatDoor
section
open Go.V
attribute [local irreducible] Δ R GP Ο h2 O Ef A8 A CB GB Enters
theorem C5{α:Type}[Inhabited α]{l:List α}{i:Nat}(h:i<l.length):l[i]! = l[i]:=by
 grind
def id(n:Int):Prop:=-9223372036854775808<=n/\n<=9223372036854775807
theorem bA{α:Type}[Inhabited α]{l:List α}{i:Nat}(h:i<l.length):l[i]!∈l:=ay
def RR(M:OA)(cap sz:Nat):Jk M cap sz 0=M:=by
 unfold Jk;split
 .rfl
 .cases M with
  | none=>rfl
  | some a=>simp[oe]
theorem jh{α:Type}[Inhabited α]{l:List α}{k:Nat}(h:k<l.length):l.drop k=l[k]!::l.drop (k+1):=by
 grind [bS]
theorem qu{α β:Type}[Inhabited α][Inhabited β](f:α->β){l:List α}{k:Nat}(h:k<l.length):(l.map f)[k]! = f l[k]!:=by
 grind
abbrev gq:=Int×Int×Int
abbrev LL:=List gq
def aI(l:gq):LV:=[E l.1,E l.2.1,E l.2.2]
def fq(t:gq):∀u∈aI t,u.oneCell' = true:=by simp[aI,Value.oneCell']
instance:Mf aI:=⟨fq⟩
structure ey where
 M:OA
 cap:Nat
 C0:LL
 deriving Inhabited
def ey.v(s:ey):Value:=ae s.M s.C0.length s.cap
abbrev E7(s:ey):HP:=ε aI 3 s.M s.C0
def ra(s:ey):JJ (E7 s):=cA _ _ _ _
def KH(n:Int):Value:=E n
abbrev G1:Nat:=47
def gV{L:LH}(M:OA)(n c:Nat)(D:LL)[C7 L M gq aI 3 D](hn:n=D.length)(hb:n<=1000000) :
  Λ Ε 102 #[ae M n c] L (λv Y=>∃I r,v=ae I D.length r/\Y = Υ aI 3 G1 I r D::L):=by
 refine Λ.bd ?_;repeat' first|refine aa ?_|intro _|with_reducible refine CB.dec (λ_=>?_) (λ_=>?_)|with_reducible refine GB.dec (λ_=>?_) (λ_=>?_)|with_reducible refine CB.bool (λ_=>?_) (λ_=>?_)|with_reducible refine GB.bool (λ_=>?_) (λ_=>?_)
 .have h:M=none:=by assumption
  subst h;refine KX.f9 (.inl rfl) (mT (L:=L) (D:=D)) ?_;intro K;subst K;refine KX.a8 aw (A.c8 aI 3 G1) ⟨_,_,rfl,rfl⟩
 .refine R.υ (A.d9 (Β:=aI) (sz:=3) (D:=[]) rfl rfl bR bR) ?_;refine R.ef (Ef.c9 rfl rfl rfl rfl hn (λe _=>fq e) gg gg) ac ?_;rintro _ _⟨I,r,rfl,rfl⟩;refine Ih ?_;intros;refine KX.a8 aw (A.refl _) ⟨I,r,rfl,rfl⟩
def π(l:gq):Prop:=0<=l.1/\0<=l.2.1/\l.2.1<=1099511627776/\1<=l.2.2/\l.2.2<=1099511627776 - l.2.1
def ig{φ ψ:Prop}(k:ψ)(h:Hid ψ->φ:=by intro k;first|refine R.ci (f:=116) (Hid.out k)|refine Ο.ci (f:=116) (Hid.out k)|refine R.cf (f:=116) rfl (Hid.out k)|refine Ο.cf (f:=116) rfl (Hid.out k)|refine KX.Nc (Hid.out k)):φ:=h ⟨k⟩
def Un{φ ψ:Prop}(k:ψ)(h:Hid ψ->φ:=by intro k;(repeat (first|refine aa ?_|intro sh|refine ig ?_));(repeat revert sh);exact Hid.out k):φ:=h ⟨k⟩
def jp{L:LH}(M:OA)(n c:Nat)(D:LL)[C7 L M gq aI 3 D](hn:n=D.length)(hb:D.length<=4096)(K:∀l∈D,π l) :
  Λ Ε 54 #[ae M n c] L (C9 (.bool true) L):=by
 refine Λ.bd ?_;refine Un ?_;intros;refine Δ.loop (α:=Nat) (λi=>i<=n) (λi=>[(0,ae M n c),(8,ae M n c),(9,E n),(10,E (i:Int))]) (λ_=>L) (λi=>n - i) 0 B aA (A.refl _) ?_;intro i hi;by_cases I:i<n
 case neg =>
  refine Un ?_;intros;exact KX.en ⟨rfl,rfl⟩
 obtain⟨o1,o2,o3,o4,o5⟩:=K _ (bA (B:i<D.length));have r:(i:Int).toNat=i:=B;rw[<-r] at o1 o2 o3 o4 o5;refine Un ?_;intros;rw[bI o5];refine Un ?_;intros;refine⟨i+1,B,B,?_,?_⟩
 .rw[bC i];exact aA
 .exact ag
def dV{κ α:Type}[DecidableEq κ](m:List (κ×α))(k:κ):Option α:=m.lookup k
theorem qC{κ α:Type}[DecidableEq κ]{m:List (κ×α)}{k:κ}{a:α}:∀p∈fc m k a,p∈(k,a)::m:=by
 grind [fc]
def dU(D:LL):Int:=D.foldl (λs l=>s+l.2.2) 0
theorem fG(D:LL){i:Nat}(h:i<D.length):dU (D.take (i+1))=dU (D.take i)+D[i]!.2.2:=by
 grind [dU,av]
theorem kh{D:LL}(h:∀l∈D,π l):∀i,i<=D.length->0<=dU (D.take i)/\dU (D.take i)<=(i:Int)*1099511627776:=by
 intro i;induction i with
 | zero=>intro _;simp[dU]
 | succ i ih =>
  intro hi;obtain⟨J,U⟩:=ih B;obtain⟨o1,o2,o3,o4,o5⟩:=h _ (bA (B:i<D.length));grind [fG]
def kn{L:LH}(M:OA)(n c:Nat)(D:LL)[C7 L M gq aI 3 D](hn:n=D.length)(hb:D.length<=4096)(K:∀l∈D,π l) :
  Λ Ε 55 #[ae M n c] L (C9 (E (dU D)) L):=by
 refine Λ.bd ?_;refine Ih ?_;intros;refine Δ.loop (α:=Nat) (λi=>i<=n) (λi=>[(0,ae M n c),(3,E (dU (D.take i))),(6,ae M n c),(7,E n),(8,E (i:Int))]) (λ_=>L) (λi=>n - i) 0 B aA (A.refl _) ?_;intro i hi;by_cases I:i<n
 case neg =>
  rw[aG B];refine Ih ?_;intros;exact KX.en ⟨rfl,rfl⟩
 have r:=kh K i B;obtain⟨o1,o2,o3,o4,o5⟩:=K _ (bA (B:i<D.length));have hs:=fG D (B:i<D.length);have hm:(i:Int)*1099511627776<=4096*1099511627776:=B;refine Ih ?_;intros;rw[aZ];refine Ih ?_;intros;refine⟨i+1,B,B,?_,A.drop⟩;rw[hs,bC i];exact aA
def O.OP{P:Program}{L:LH}{env:Env}{ty:TypeId}{κ α:Type}{t Ν Τ:TypeId}{z:Value}{x:Operand}{b:Nat}{kv:κ->Value}{Β:α->Value}{m:List (κ×α)}{Α:LH}[ht:K0 P t Ν Τ z][hp:KQ L b κ α kv Β m Α](K:χ env x=some (.map (some b))) :
  O P L env (.call { callee:=.builtin .len,args:=#[x],argTypes:=#[t] }) ty (E (m.length:Int)) :=
 O.mk (λθ Α _ w ea s _ _ _ _=>by
  obtain⟨es,r,e1,e2,e3,e4,e5,s2⟩:=(s.perm (hp.perm.append_right Α)).Nu;have hb:=s2.IN;have I:(getObj b).run P w=.ok (.map es r) w:=by simp[getObj,Sem.run,hb]
  have a2:es.size=m.length:=by
   have:=congrArg List.length e1
   simpa using this
  simp[execOp,resolve,invoke,aH ea K,builtin,Builtin.len_,run_underlying ht.under,I,goInt,a2])
def O.A0{P:Program}{L:LH}{env:Env}{ty:TypeId}{t f off:Nat}{x:Operand}{cs:LV}{v:Value}{fs:Array Field}{fd:Field}(J:P.underlying t=some (.struct fs))(U:fs[f]? = some fd)(h3:fd.offset=off)(h4:∀w,(isAgg fd.type).run P w=.ok false w)
  (K:χ env x=some (bh cs)) (hv:cs[off]? = some v):O P L env (.field t x f) ty v :=
 O.mk (λθ Α _ w ea s _ _ _ _=>by
  simp[execOp,aH ea K,Instr.field,run_underlying J,U,h3,asAgg,part,h4,hv])
def dH(a:Int×Int):LV:=[E a.1,E a.2]
def kO(t:Int×Int):∀u∈dH t,u.oneCell' = true:=by simp[dH,Value.oneCell']
instance:Mf dH:=⟨kO⟩
abbrev Lz:Nat:=67
def H8(l:gq):Prop:=0<=l.1/\0<=l.2.1/\0<=l.2.2/\l.2.1+l.2.2<=1099511627776
def π.w{l:gq}(h:π l):H8 l:=by unfold π at h;unfold H8;omega
def kw(x b:gq):Prop:=[x.1,x.2.1,0]=[b.1,b.2.1+b.2.2,0]
instance (x b:gq):Decidable (kw x b):=by unfold kw;infer_instance
theorem N7{x b:gq}:kw x b↔x.1=b.1/\x.2.1=b.2.1+b.2.2:=by simp[kw]
def bz(l:LL)(x:gq):LL :=
 if x.2.2=0 then l else if l.length≠0/\kw x l[l.length - 1]! then l.set (l.length - 1) (l[l.length - 1]!.1,l[l.length - 1]!.2.1,l[l.length - 1]!.2.2+x.2.2) else l++[x]
theorem oI(l:LL)(x:gq):(bz l x).length<=l.length+1:=by
 grind [bz]
theorem zF{l:LL}{x:gq}(h:∀y∈l,H8 y)(K:H8 x):∀y∈bz l x,H8 y:=by
 grind [bz,N7,bA,H8]
theorem jv{D:LL}:∀{l:LL},(∀y∈l,H8 y)->(∀y∈D,H8 y)->∀y∈D.foldl bz l,H8 y:=by
 induction D with
 | nil=>grind
 | cons x D ih =>
  grind [zF,az]
theorem gZ(D:LL):∀l:LL,(D.foldl bz l).length<=l.length+D.length:=by
 induction D with
 | nil=>intro l;simp
 | cons x D ih =>
  grind [oI]
def BM{L:LH}(x b:gq)(hb:H8 b):Λ Ε 305 #[bh (aI x),bh (aI b)] L (C9 (.bool (dB (kw x b))) L):=by
 unfold H8 at hb;refine Λ.bd ?_;refine Ih ?_;intros;exact KX.en ⟨rfl,rfl⟩
abbrev AQ:=Uw [.ev 8,.ef 9,.ev 10]
abbrev AP:=Ux [.ev 10,.ef 11]
def Ii{φ ψ:Prop}(k:ψ)(h:Hid ψ->φ:=by intro k;(repeat (first|refine aa ?_|intro sh|refine Δ.dr 39 4 AQ ?_|refine Δ.dr 39 5 AP ?_));(repeat revert sh);exact Hid.out k):φ:=h ⟨k⟩
theorem oQ{L:LH}(M:OA)(cap:Nat)(D:LL)(x:gq)(hl:D.length<=100000000)(a6:∀y∈D,H8 y)(K:H8 x) :
  Λ Ε 278 #[ae M D.length cap,bh (aI x)] (Υ aI 3 G1 M cap D::L) (λv Y=>∃a5 I,v=ae a5 (bz D x).length I/\Y = Υ aI 3 G1 a5 I (bz D x)::L):=by
 refine Λ.bd ?_;by_cases h0:x.2.2=0
 .have e:bz D x=D:=by unfold bz;rw[μ h0]
  rw[e];refine Ii ?_;intros;exact KX.en ⟨M,cap,rfl,rfl⟩
 by_cases J:D.length=0
 .have e:bz D x=D++[x]:=by unfold bz;rw[Ω h0,Ω B]
  rw[e];refine Ii ?_;intros;refine R.ef (Ef.a8 (Β:=aI) (e:=x) rfl rfl rfl rfl rfl aS (fq _) B B) ac ?_;rintro _ _⟨a2,r,rfl,rfl⟩;refine Ii ?_;intros;exact KX.en ⟨a2,r,rfl,rfl⟩
 have a3:((D.length:Int) - 1).toNat=D.length - 1:=B;have a4:=a6 _ (bA (B:D.length - 1<D.length));rw[<-a3] at a4;refine Ii ?_;intros;refine Ο.cr (BM x D[((D.length:Int) - 1).toNat]! a4) ?_;by_cases hc:kw x D[((D.length:Int) - 1).toNat]!
 .have a7:=N7.1 hc;rw[bI hc];unfold H8 at a4 K;refine Ii ?_;intros;refine Ο.I1 (Ef.d9 (e:=((D[((D.length:Int) - 1).toNat]!.1,D[((D.length:Int) - 1).toNat]!.2.1,D[((D.length:Int) - 1).toNat]!.2.2+x.2.2):gq)) rfl rfl aS rfl B ac) ?_;rintro _ _ rfl
  have e:bz D x=D.set ((D.length:Int) - 1).toNat (D[((D.length:Int) - 1).toNat]!.1,D[((D.length:Int) - 1).toNat]!.2.1,D[((D.length:Int) - 1).toNat]!.2.2+x.2.2):=by
   unfold bz;rw[a3] at hc ⊢;rw[Ω h0,μ ⟨J,hc⟩]
  rw[e];refine Ii ?_;intros;exact KX.a8 aw ag ⟨M,cap,by rw[bq];rfl,rfl⟩
 .rw[bj hc]
  have e:bz D x=D++[x]:=by
   unfold bz;rw[a3] at hc;rw[Ω h0,Ω ay]
  rw[e];refine Ii ?_;intros;refine R.ef (Ef.a8 (Β:=aI) (e:=x) rfl rfl rfl rfl rfl aS (fq _) B B) ac ?_;rintro _ _⟨a2,r,rfl,rfl⟩;refine Ii ?_;intros;exact KX.en ⟨a2,r,rfl,rfl⟩
def QU(x:gq)(c:Int):gq:=(x.1,x.2.1,c)
def Qp(x:gq)(c:Int):gq:=(x.1,x.2.1+c,x.2.2 - c)
def N8(l:LL)(cs:Nat->Int)(k:Nat):gq:=QU l[k]! (cs k)
def MA(l:LL)(cs:Nat->Int)(k:Nat):gq:=Qp l[k]! (cs k)
def NO(l:LL)(cs:Nat->Int)(k:Nat):LV:=if k % 2=0 then[bh (aI (N8 l cs (k / 2))),.bool true] else[bh (aI (MA l cs (k / 2))),.bool false]
def Ph(l:LL)(cs:Nat->Int):List (LV):=(List.range (2*l.length)).map (NO l cs)
def nw(l:LL)(cs:Nat->Int):(Ph l cs).length=2*l.length:=by simp[Ph]
def vy{l:LL}{cs:Nat->Int}{k:Nat}(h:k<(Ph l cs).length):(Ph l cs)[k]=NO l cs k:=by simp[Ph]
def rS(g:FuncId)(cap:LV)(n:Nat)(cs:Nat->Int)(C:Nat->HP):Prop:=∀k,k<n->∀L:LH,Λ Ε g (([]++[Value.int .i64 (k:Int)]++cap:LV)).toArray (C k::L) (C9 (E (cs k)) (C (k+1)::L))
abbrev fB:Nat:=35
abbrev RT:Nat:=48
theorem yD(bx bf g:Nat)(cap:LV)(M:OA)(c:Nat)(l:LL)(cs:Nat->Int)(C:Nat->HP)(hm:l.length<=1000000)(hw:∀x∈l,H8 x)(hc:∀k,k<l.length->0<=cs k/\cs k<=l[k]!.2.2)(hC:rS g cap l.length cs C) :
  Cn Ε 332 [al bx,al bf] (Ph l cs) [obj bx fB [ae M l.length c],obj bf RT [.func (.func g) #[] cap.toArray],C 0,ε aI 3 M l] []:=by
 intro i Jj Jx Z;rw[nw]
 have I : ∀k (hk:k<2*l.length),Nt Ε i (NO l cs k) [Jj k] (λv Y=>(v=.bool true/\Y = [Jj (k+1)])\/(v=.bool false/\Y = [Jx k])):=by
  intro k hk;have h:=Z k (by rw[nw];exact hk);rw[vy] at h;exact h
 clear Z;refine Λ.bd (args:=[.func (.yield i) #[] #[],al bx,al bf]) ?_;refine Ih ?_;intros;refine Δ.loop (α:=Nat) (λk=>k<=l.length) (λk=>[(0,.func (.yield i) #[] #[]),(1,al bx),(2,al bf),(7,ae M l.length c),(8,E l.length),(9,E (k:Int))]) (λk=>[Jj (2*k),obj bx fB [ae M l.length c],obj bf RT [.func (.func g) #[] cap.toArray],C k,ε aI 3 M l]) (λk=>l.length - k) 0 B aA (A.refl _) ?_;intro k hk;by_cases r:k<l.length
 case neg =>
  have a5:k=l.length:=B;refine Ih ?_;intros;refine KX.c8 aw (A.c7 (A.nil _)) (.inl ?_);rw[a5]
 have a4:(k:Int).toNat=k:=B;have a6:=hw _ (bA r);have a7:=hc k r;have a2:=I (2*k) B;have a3:=I (2*k+1) B;rw[show NO l cs (2*k)=[bh (aI (N8 l cs k)),.bool true] by grind [NO]] at a2;rw[show NO l cs (2*k+1)=[bh (aI (MA l cs k)),.bool false] by grind [NO]] at a3;unfold H8 at a6;refine Ih ?_;intros;rw[a4];refine R.υ (A.at (Μ:=C k) (A.refl _)) ?_;refine R.ef (Ef.d7 rfl rfl (hC k r _)) ac ?_;rintro _ _⟨rfl,rfl⟩;refine Ih ?_;intros;refine R.υ (A.at (Μ:=Jj (2*k)) (A.refl _)) ?_;((with_reducible apply R.a8);refine R.OG (A8.yield (a2) rfl rfl eY) ac ?_);rintro _ _⟨_,(⟨rfl,rfl⟩|⟨rfl,rfl⟩),hL⟩
 .simp only[aj,ak] at hL;subst hL;refine Ih ?_;intros;((with_reducible apply R.a8);refine R.OG (A8.yield (a3) rfl rfl eY) ac ?_);rintro _ _⟨_,(⟨rfl,rfl⟩|⟨rfl,rfl⟩),hL⟩
  .simp only[aj,ak] at hL;subst hL;refine Ih ?_;intros;refine⟨k+1,B,B,?_,?_⟩
   .rw[show(((k+1:Nat)):Int)=(k:Int)+1 by omega];exact aA
   .rw[show 2*(k+1)=2*k+1+1 by omega];exact ag
  .simp only[aj,ak] at hL;subst hL;refine Ih ?_;intros;exact KX.a8 aw (A.c7 (A.nil _)) ay
 .simp only[aj,ak] at hL;subst hL;refine Ih ?_;intros;exact KX.a8 aw (A.c7 (A.nil _)) ay
def Jt(b:Nat)(D:LL)(x:OA×Nat):LH:=[obj b fB [ae x.1 D.length x.2],Υ aI 3 G1 x.1 x.2 D]
def N9(b:Nat)(D:LL):HP:=hex λx=>bW (Jt b D x)
def K1(l:LL)(cs:Nat->Int)(m:Nat):LL:=((List.range m).map (N8 l cs)).foldl bz []
def KR(l:LL)(cs:Nat->Int)(m:Nat):LL:=((List.range m).map (MA l cs)).foldl bz []
def DP(l:LL)(cs:Nat->Int)(m:Nat):K1 l cs (m+1)=bz (K1 l cs m) (N8 l cs m):=by simp[K1,List.range_succ]
def tC(l:LL)(cs:Nat->Int)(m:Nat):KR l cs (m+1)=bz (KR l cs m) (MA l cs m):=by simp[KR,List.range_succ]
def mX(l:LL)(cs:Nat->Int)(m:Nat):(K1 l cs m).length<=m/\(KR l cs m).length<=m:=by
 have J:=gZ ((List.range m).map (N8 l cs)) [];have U:=gZ ((List.range m).map (MA l cs)) [];simp at J U;exact⟨J,U⟩
theorem PU{l:LL}{cs:Nat->Int}{k:Nat}(hk:k<l.length)(hw:∀x∈l,H8 x)(hc:0<=cs k/\cs k<=l[k]!.2.2):H8 (N8 l cs k)/\H8 (MA l cs k):=by
 grind [bA,H8,N8,MA,QU,Qp]
theorem Ic{l:LL}{cs:Nat->Int}(hw:∀x∈l,H8 x)(hc:∀k,k<l.length->0<=cs k/\cs k<=l[k]!.2.2)(m:Nat)(hm:m<=l.length):(∀x∈K1 l cs m,H8 x)/\∀x∈KR l cs m,H8 x:=by
 constructor
 .refine jv bR ?_;grind [PU]
 .refine jv bR ?_;intro x K;obtain⟨k,hk,rfl⟩:=IY K;have r:=List.mem_range.1 hk;exact(PU B hw ay).2
abbrev AO:List Im:=[.ev 0,.ev 1,.ef 2,.ef 3]
def fN{φ ψ:Prop}(k:ψ)(h:Hid ψ->φ:=by intro k;first|refine R.ci (f:=324) (Hid.out k)|refine Ο.ci (f:=324) (Hid.out k)|refine R.cf (f:=324) rfl (Hid.out k)|refine Ο.cf (f:=324) rfl (Hid.out k)|refine KX.Nc (Hid.out k)):φ:=h ⟨k⟩
def fM{φ ψ:Prop}(k:ψ)(h:Hid ψ->φ:=by intro k;(with_reducible apply Δ.a8);first|refine Δ.dr 22 7 AO (Hid.out k)):φ:=h ⟨k⟩
def Uo{φ ψ:Prop}(k:ψ)(h:Hid ψ->φ:=by intro k;(repeat (first|refine aa ?_|intro sh|refine fM ?_|refine fN ?_));(repeat revert sh);exact Hid.out k):φ:=h ⟨k⟩
def mM(g:Nat)(cap:LV)(M:OA)(c:Nat)(l:LL)(cs:Nat->Int)(C:Nat->HP)(hm:l.length<=1000000)(hw:∀x∈l,H8 x)(hc:∀k,k<l.length->0<=cs k/\cs k<=l[k]!.2.2)(hC:rS g cap l.length cs C) :
  Λ Ε 314 #[ae M l.length c,.func (.func g) #[] cap.toArray] [C 0,ε aI 3 M l] (λv Y=>∃r c1 I c2,v=.tuple #[ae r (K1 l cs l.length).length c1,ae I (KR l cs l.length).length c2]/\Y = [Υ aI 3 G1 r c1 (K1 l cs l.length),Υ aI 3 G1 I c2 (KR l cs l.length)]):=by
 refine Λ.bd ?_;refine Uo ?_;intros;rename_i b4 b5 bx bf;refine Δ.d8 (yD bx bf g cap M c l cs C hm hw hc hC) rfl TF.1 ac ?_ (λk=>[N9 b4 (K1 l cs ((k+1) / 2)),N9 b5 (KR l cs (k / 2))]) ?_ ?_ ?_
 .intro vs b1;obtain⟨k,_,rfl⟩:=IY b1;unfold NO;split<;>rfl
 .simp only[aj,ak];rw[show K1 l cs ((0+1) / 2)=[] from rfl,show KR l cs (0 / 2)=[] from rfl];refine A.trans ?_ (A.f9 (none,0) (f:=Jt b4 []) (A.refl _));refine A.trans ?_ (A.append (A.refl (Jt b4 [] (none,0))) (A.f9 (none,0) (f:=Jt b5 []) (A.refl _)));simp only[Jt,aX,aj,ak];refine A.trans (A.c8 aI 3 G1) (A.trans (A.c8 aI 3 G1) ?_);exact ag
 .intro k hk;have b2:k<2*l.length:=by rw[nw] at hk;exact hk
  rw[vy];obtain⟨m,a5⟩:∃m,m=k / 2:=⟨_,rfl⟩;have a6:m<l.length:=B;obtain⟨a7,a9⟩:=PU a6 hw (hc m a6);have a3:=mX l cs m;have b0:=mX l cs (m+1);have a2:=Ic hw hc m B;unfold NO;by_cases a4:k % 2=0
  .rw[μ a4,<-a5,show(k+1) / 2=m by omega,show(k+1+1) / 2=m+1 by omega,DP];generalize K1 l cs m=bU at a3 a2;generalize KR l cs m=Α;generalize N8 l cs m=x at a7;show Δ _ _ _ ((12,.bool true)::(11,bh (aI x))::_) _ _;refine Δ.c8 (f:=Jt b4 bU) ?_;rintro⟨r,c1⟩;simp only[Jt,aj,ak];refine Uo ?_;intros;refine R.υ (A.at (Μ:=Υ aI 3 G1 r c1 bU) (A.refl _)) ?_;refine R.ca (oQ r c1 bU x B a2.1 a7) ?_;rintro _ _⟨I,c2,rfl,rfl⟩;refine Uo ?_;intros;refine KX.round ?_;refine A.trans ?_ (A.f9 (I,c2) (f:=Jt b4 (bz bU x)) (A.refl _));simp only[Jt,aj,ak];exact ag
  .rw[Ω a4,<-a5,show(k+1) / 2=m+1 by omega,show(k+1+1) / 2=m+1 by omega,tC];generalize K1 l cs (m+1)=bU;generalize KR l cs m=Α at a3 a2;generalize MA l cs m=x at a9;show Δ _ _ _ ((12,.bool false)::(11,bh (aI x))::_) _ _;refine Δ.υ A.swap ?_;refine Δ.c8 (f:=Jt b5 Α) ?_;rintro⟨r,c1⟩;simp only[Jt,aj,ak];refine Uo ?_;intros;refine R.υ (A.at (Μ:=Υ aI 3 G1 r c1 Α) (A.refl _)) ?_;refine R.ca (oQ r c1 Α x B a2.2 a9) ?_;rintro _ _⟨I,c2,rfl,rfl⟩;refine Uo ?_;intros;refine KX.round ?_;refine A.trans ?_ (A.swap (Μ:=N9 b5 (bz Α x)));refine A.trans ?_ (A.f9 (I,c2) (f:=Jt b5 (bz Α x)) (A.refl _));simp only[Jt,aj,ak];exact ag
 .rw[nw,show(2*l.length+1) / 2=l.length by omega,show 2*l.length / 2=l.length by omega];generalize K1 l cs l.length=bU;generalize KR l cs l.length=Α;simp only[aJ];refine KX.c7 (KX.f8 ?_);refine Δ.c8 (f:=Jt b4 bU) ?_;rintro⟨r,c1⟩;refine Δ.υ (Y:=N9 b5 Α::Jt b4 bU (r,c1)) (A.perm (by simp only[Jt,aj,ak];exact(List.Perm.cons _ (List.Perm.swap _ _ _)).trans (List.Perm.swap _ _ _))) ?_;refine Δ.c8 (f:=Jt b5 Α) ?_;rintro⟨I,c2⟩;simp only[Jt,aj,ak];refine Uo ?_;intros;refine KX.a8 (vs:=[ae r bU.length c1,ae I Α.length c2]) (B6.a8 rfl (B6.a8 rfl B6.nil)) ?_ ⟨r,c1,I,c2,rfl,rfl⟩;exact ag
def L7(l:LL)(m:Int):Nat->Int
 | 0=>m
 | k+1=>L7 l m k - min (L7 l m k) l[k]!.2.2
def K2(l:LL)(m:Int)(k:Nat):Int:=min (L7 l m k) l[k]!.2.2
theorem ww{l:LL}{m:Int}(h0:0<=m)(hw:∀x∈l,H8 x):∀k,k<=l.length->0<=L7 l m k/\L7 l m k<=m
 | 0,_=>⟨h0,co _⟩
 | k+1,hk=>by
  have ih:=ww h0 hw k B;grind [bA,H8,L7]
theorem oU{l:LL}{m:Int}(h0:0<=m)(hw:∀x∈l,H8 x)(k:Nat)(hk:k<l.length):0<=K2 l m k/\K2 l m k<=l[k]!.2.2:=by
 have J:=ww h0 hw k B;grind [bA,H8,K2]
abbrev kR:Nat:=3
def Oa(bn bl:Nat)(M:OA)(c:Nat)(l:LL)(m:Int)(k:Nat):LH:=[obj bn kR [E (L7 l m k)],obj bl fB [ae M l.length c],ε aI 3 M l]
abbrev AN:=Uw []
def tx(bn bl:Nat)(M:OA)(c:Nat)(l:LL)(m:Int)(hm:l.length<=1000000)(h0:0<=m)(J:m<=1099511627776)(hw:∀x∈l,H8 x) :
  rS 318 [al bn,al bl] l.length (K2 l m) (λk=>bW (Oa bn bl M c l m k)):=by
 intro k hk L;have I:(k:Int).toNat=k:=B;have hb:=ww h0 hw k B;have r:=oU h0 hw k hk;have a2:=hw _ (bA hk);unfold H8 at a2;unfold K2 at r;rw[<-I] at a2 r;rw[I] at r;refine Λ.bd (args:=[E (k:Int),al bn,al bl]) ?_;refine Δ.υ A.NN ?_;simp only[Oa,aj,ak];repeat first|refine aa ?_|intro _|((with_reducible apply Δ.a8);first|refine Δ.dr 17 1 AN ?_)
 rw[I];exact KX.a8 aw (A.f8 (Μ:=[_,_,_]) (L:=L)) ⟨rfl,rfl⟩
def ku{L:LH}(M:OA)(n c:Nat)(D:LL)[C7 L M gq aI 3 D](hn:n=D.length)(hb:D.length<=4096)(K:∀l∈D,π l) :
  Λ Ε 17 #[ae M n c] L (C9 (E (dU D)) L):=by
 refine Λ.bd ?_;refine Ih ?_;intros;refine R.ca (jp M n c D hn hb K) ?_;rintro _ L ⟨rfl,rfl⟩;refine Ih ?_;intros;refine R.ca (kn M n c D hn hb K) ?_;rintro _ L ⟨rfl,rfl⟩;refine Ih ?_;intros;exact KX.en ⟨rfl,rfl⟩
def gz{φ ψ:Prop}(k:ψ)(h:Hid ψ->φ:=by intro k;first|refine R.ci (f:=311) (Hid.out k)|refine Ο.ci (f:=311) (Hid.out k)|refine R.cf (f:=311) rfl (Hid.out k)|refine Ο.cf (f:=311) rfl (Hid.out k)|refine KX.Nc (Hid.out k)):φ:=h ⟨k⟩
def Up{φ ψ:Prop}(k:ψ)(h:Hid ψ->φ:=by intro k;(repeat (first|refine aa ?_|intro sh|refine gz ?_));(repeat revert sh);exact Hid.out k):φ:=h ⟨k⟩
def Am{L:LH}(M:OA)(c:Nat)(D:LL)(n:Int)(mixed:Bool)(a3:mixed=false)(hb:D.length<=4096)(K:∀l∈D,π l)(a2:0<=n)(a4:n<=1099511627776) :
  Λ Ε 300 #[ae M D.length c,E n,.bool mixed] (ε aI 3 M D::L) (λv Y =>
   (dU D<n/\v=.tuple #[ae none 0 0,ae none 0 0,E 10]/\Y = ε aI 3 M D::L) \/
   (n<=dU D/\∃r c1 I c2,v=.tuple #[ae r (K1 D (K2 D n) D.length).length c1,ae I (KR D (K2 D n) D.length).length c2,E 0]/\Y = Υ aI 3 G1 r c1 (K1 D (K2 D n) D.length)::Υ aI 3 G1 I c2 (KR D (K2 D n) D.length)::ε aI 3 M D::L)):=by
 subst a3;have hw:∀x∈D,H8 x:=λx h=>(K x h).w;refine Λ.bd ?_;refine Up ?_;intros;refine R.cr (jp M D.length c D rfl hb K) ?_;refine Up ?_;intros;refine R.cr (ku M D.length c D rfl hb K) ?_;by_cases hs:dU D<n
 .refine Up ?_;intros;exact KX.a8 aw (A.refl _) (.inl ⟨hs,rfl,rfl⟩)
 refine Up ?_;intros;rename_i bl bn;refine R.υ (Y:=bW (Oa bn bl M c D n 0)::ε aI 3 M D::ε aI 3 M D::L) ?_ ?_
 .refine A.trans ?_ A.f8;simp only[Oa,L7,aj,ak];refine(A.at (Μ:=ε aI 3 M D) (A.dup (kj _ _ _ _))).trans ?_;refine(A.dup (kj _ _ _ _)).trans ?_;exact ag
 (first|refine R.ef (Ef.call (mM _ _ M c D (K2 D n) (λk=>bW (Oa bn bl M c D n k)) B hw (oU a2 hw) (tx bn bl M c D n B a2 a4 hw)) rfl eY) ac ?_);rintro _ _⟨_,⟨r,c1,I,c2,rfl,rfl⟩,hL⟩;simp only[aj,ak] at hL;subst hL;refine Up ?_;intros;exact KX.a8 aw (A.refl _) (.inr ⟨B,r,c1,I,c2,rfl,rfl⟩)
