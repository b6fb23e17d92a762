/- Lemmas. -/
import Derived.Test.YtlgpgjdggilkgaaGreatDoorEtac
import Derived.Laws.BytesArg
import Derived.Laws.Strings
import Derived.Laws.MakeOwn
set_option linter.all false
namespace Go.V
section
section
variable {P:Program}{N:Nat}{env:Env}{L:Η}{Ξ:F4}
def Α.c8{c:Code}{φ:Prop}(h:∀θ R w,Sat θ (L++R) w->φ)(k:φ->Α P N c env L Ξ):Α P N c env L Ξ:=λr θ χ a w hr i=>let ⟨_,_,_,s⟩:=i;k (h θ _ w s) r θ χ a w hr i
def GO.g8{B:Array Oper}{l:List Oper}{φ:Prop}(h:∀θ R w,Sat θ (L++R) w->φ)(k:φ->GO P N B l env L Ξ):GO P N B l env L Ξ:=λr θ χ a w hr i=>let ⟨_,_,_,s⟩:=i;k (h θ _ w s) r θ χ a w hr i
def Α.cL{c:Code}{Γ : Η}(U:F L Γ)(h:Α P N c env Γ Ξ):Α P N c env L Ξ:=h.Rs (OL.refl _) U
def GO.cL{B:Array Oper}{l:List Oper}{Γ : Η}(U:F L Γ)(h:GO P N B l env Γ Ξ):GO P N B l env L Ξ:=h.Rs (OL.refl _) U
def GP.cL{M:Array Oper}{done:List Nat}{wk:List K4}{B:List PE}{Γ : Η}(U:F L Γ)(h:GP P N M done wk B env Γ Ξ):GP P N M done wk B env L Ξ:=λhK hp hs a2 θ χ a w S i a3 a4=>h hK hp hs a2 θ χ a w S (i.less (OL.refl _) U) a3 a4
def δ.cL{a2:Array Oper}{done:List Nat}{wk:List K4}{B:List PE}{Γ : Η}{s:K4}{M:Option Tmp}{op:Op}{ty:TypeId}(U:F L Γ)(h:δ P N a2 done s wk M op ty B env Γ Ξ):δ P N a2 done s wk M op ty B env L Ξ:=λpos af g K T=>GP.cL U (h pos af g K T)
theorem Α.c7{α:Type}{x y:Code}(Inv:α->Prop)(e:α->Env)(l:α->Η)(h:Α P N x env L (Ξ.seq λB Γ=>∃g,Inv g/\OL B (e g)/\F Γ (l g)))(h' : ∀g,Inv g->Α P N y (e g) (l g) Ξ):Α P N (.seq x y) env L Ξ :=
 Α.mid _ h (by rintro B Γ ⟨g,K,T,h3⟩;exact(h' g K).Rs T h3)
def Α.less{c:Code}{B : Env}(he:OL env B)(h:Α P N c B L Ξ):Α P N c env L Ξ:=h.Rs he (F.refl _)
def Α.c9{α:Type}{c:Code}{f:α->Η}(h:∀x,Α P N c env (f x++L) Ξ):Α P N c env (hex (λx=>cx (f x))::L) Ξ:=Α.open_ (φ:=λ_=>True) (Γ:=λx=>f x++L) (λθ R w s =>
 let ⟨x,s1⟩:=Sat.TI (show Sat θ (hex (λx=>cx (f x))::(L++R)) w from s);⟨x,trivial,by rw[List.append_assoc];exact s1.QB⟩) (λx _=>h x)
def GO.c8{α:Type}{B:Array Oper}{l:List Oper}{f:α->Η}(h:∀x,GO P N B l env (f x++L) Ξ):GO P N B l env (hex (λx=>cx (f x))::L) Ξ:=GO.open_ (φ:=λ_=>True) (Γ:=λx=>f x++L) (λθ R w s =>
 let ⟨x,s1⟩:=Sat.TI (show Sat θ (hex (λx=>cx (f x))::(L++R)) w from s);⟨x,trivial,by rw[List.append_assoc];exact s1.QB⟩) (λx _=>h x)
def F.f8{α:Type}{f:α->Η}{R:Η}(x:α)(h:F L (f x++R)):F L (hex (λx=>cx (f x))::R):=λθ R' w s=>by
 have s1:=h θ R' w s;rw[List.append_assoc] at s1;exact Sat.d8 (f:=λx=>cx (f x)) x (Sat.a8 s1)
def F.pure{φ:Prop}{Γ : Η}(hφ:φ)(h:F L Γ):F L (ee φ::Γ):=λθ R w s=>Sat.Vb (h θ R w s) hφ
def Α.d7{c:Code}{φ:Prop}(h:φ->Α P N c env L Ξ):Α P N c env (ee φ::L) Ξ:=Α.open_ (φ:=λ_:Unit=>φ) (Γ:=λ_=>L) (λθ R w s=>⟨(),Sat.TH (show Sat θ (ee φ::(L++R)) w from s),s.tail⟩) (λ_=>h)
def GO.d7{B:Array Oper}{l:List Oper}{φ:Prop}(h:φ->GO P N B l env L Ξ):GO P N B l env (ee φ::L) Ξ:=GO.open_ (φ:=λ_:Unit=>φ) (Γ:=λ_=>L) (λθ R w s=>⟨(),Sat.TH (show Sat θ (ee φ::(L++R)) w from s),s.tail⟩) (λ_=>h)
def F.dup{Ο:HP}(hA:VJ Ο):F (Ο::L) (Ο::Ο::L):=λ_ _ _ s=>Sat.dup hA s
def F.N9{α:Type}{Ε:α->τ}{sz η:Nat}{ad:OA}{cap:Nat}{I:List α}:F (Ω Ε sz η ad cap I::L) (ξ Ε sz ad I::L):=λ_ _ _ s=>Sat.N9 s
def F.d9{α:Type}{Ε:α->τ}{sz η b:Nat}{cs:τ}{I:List α}{n:Nat}(hc:cs=I.flatMap Ε)(hn:I.length=n)(hs:∀x∈I,(Ε x).length=sz)(hm:n<=9223372036854775807):F (obj b η cs::L) (Ω Ε sz η (some ⟨b,0,none⟩) n I::L):=λθ R w s=>by
 subst hc hn;exact Sat.RO (show Sat θ (jC b (.cells (I.flatMap Ε).toArray η (0,0))::(L++R)) w from s) hs (Nat.le_refl _) (by simp only[maxLen];omega) (by simp[db hs]) (List.take_of_length_le (by rw[db hs];exact Nat.le_refl _))
def F.c8{α:Type}(Ε:α->τ)(sz η:Nat):F L (Ω Ε sz η none 0 []::L):=λ_ _ _ s=>Sat.d7 Ε sz η s
def F.f5{α:Type}(Ε:α->τ)(sz:Nat)(ad:OA):F L (ξ Ε sz ad []::L):=λθ R w s=>by
 obtain⟨ok,ι,h',a,b1,c,Μ⟩:=s;exact⟨ok,ι,h',a,b1,c,Hp.emp,Hp.emp,h',Hp.a8 _,Hp.c7 _,Hp.a8 _,Hp.sub.refl _,⟨by simp,.inl rfl⟩,Μ⟩
def oO{α:Type}{Ε:α->τ}{sz:Nat}{I:List α}[h:F2 L none α Ε sz I]:∀θ R w,Sat θ (L++R) w->I=[]:=λθ R w s=>by
 rcases (h.rd θ R w s).2 with h|⟨a,ha,_⟩
 .exact h
 .cases ha
def mW{α:Type}{Ε:α->τ}{sz η:Nat}{ad:OA}{cap:Nat}{I:List α}{R' : Η}[h:Se L ad α Ε sz η cap I R']:∀θ R w,Sat θ (L++R) w->I.length<=cap/\cap<=9223372036854775807:=λθ R w s=>by
 have:=(s.perm (h.perm.append_right R)).QY
 simp only[maxLen] at this;exact⟨this.2.1,by omega⟩
def Ψ{α:Type}(f:α->HP)(l:List α):HP:=λι _=>∀x∈l,f x ι Hp.emp
theorem F.a8{α:Type}(f:α->HP):F L (Ψ f []::L):=λθ R w s=>by
 obtain⟨ok,ι,h',a,b1,c,Μ⟩:=s;exact⟨ok,ι,h',a,b1,c,Hp.emp,Hp.emp,h',Hp.a8 _,Hp.c7 _,Hp.a8 _,Hp.sub.refl _,(by intro x O;cases O),Μ⟩
structure Om (Ο:HP):Prop where
 RQ:VJ Ο
 mono:∀ι ι' h,Hp.sub ι ι'->Ο ι h->Ο ι' h
def cQ{α:Type}(Ε:α->τ)(sz:Nat)(ad:OA)(I:List α):Om (ξ Ε sz ad I):=⟨lF Ε sz ad I,λι ι' h hs hi=>by
 obtain⟨K,T⟩:=hi;refine⟨K,?_⟩;rcases T with T|⟨g,off,B,η,fz,f1,f2,f3⟩
 .exact .inl T
 .exact .inr ⟨g,off,B,η,fz,f1,hs _ _ f2,f3⟩⟩
def F.g8{α:Type}{f:α->HP}{l l' : List α}(h:∀x∈l',x∈l):F (Ψ f l::L) (Ψ f l'::L):=λθ R w s=>by
 obtain⟨ok,ι,h',a,b1,c,G6,E4,D4,d1,d2,d3,d4,d5,d6⟩:=s;exact⟨ok,ι,h',a,b1,c,G6,E4,D4,d1,d2,d3,d4,λx O=>d5 x (h x O),d6⟩
def F.j6{α:Type}{f:α->HP}(hf:∀x,Om (f x)){x:α}{l:List α}:F (f x::Ψ f l::L) (Ψ f (x::l)::L):=λθ R w s=>by
 obtain⟨ok,ι,h',a,b1,c,Sw,E4,D4,d1,d2,d3,d4,d5,VI,h₃,h₄,e1,e2,e3,e4,e5,e6⟩:=s;refine⟨ok,ι,h',a,b1,c,ι,Hp.emp,h₄,Hp.sub.refl _,Hp.c7 _,Hp.a8 _,e4.trans d4,?_,e6⟩;intro y Y;rcases Nj Y with rfl|Y
 .exact(hf _).mono _ _ _ d1 ((hf _).RQ _ _ d5)
 .exact(hf _).mono _ _ _ e1 (e5 y Y)
def F.c9{α:Type}{f:α->HP}(hf:∀x,Om (f x)){l l' : List α}:F (Ψ f l::Ψ f l'::L) (Ψ f (l++l')::L):=λθ R w s=>by
 obtain⟨ok,ι,h',a,b1,c,Sw,E4,D4,d1,d2,d3,d4,d5,VI,h₃,h₄,e1,e2,e3,e4,e5,e6⟩:=s;refine⟨ok,ι,h',a,b1,c,ι,Hp.emp,h₄,Hp.sub.refl _,Hp.c7 _,Hp.a8 _,e4.trans d4,?_,e6⟩;intro y Y;rcases J8 Y with Y|Y
 .exact(hf _).mono _ _ _ d1 (d5 y Y)
 .exact(hf _).mono _ _ _ e1 (e5 y Y)
def F.d7{α:Type}{f:α->HP}(hf:∀x,Om (f x)){x:α}:F (f x::L) (Ψ f [x]::L):=λθ R w s=>by
 obtain⟨ok,ι,h',a,b1,c,Sw,E4,D4,d1,d2,d3,d4,d5,d6⟩:=s;refine⟨ok,ι,h',a,b1,c,Sw,E4,D4,d1,d2,d3,d4,?_,d6⟩;intro y Y;simp at Y;subst Y;exact(hf _).RQ _ _ d5
def F.d8{α:Type}{f:α->HP}{l:List α}{x:α}(h:x∈l):F (Ψ f l::L) (f x::Ψ f l::L):=λθ R w s=>by
 obtain⟨ok,ι,h',a,b1,c,Sw,E4,D4,d1,d2,d3,d4,d5,d6⟩:=s;exact⟨ok,ι,h',a,b1,c,Sw,Hp.emp,h',d1,Hp.c7 _,Hp.a8 _,Hp.sub.refl _,d5 x h,Sw,E4,D4,d1,d2,d3,d4,d5,d6⟩
def F.Sf{α:Type}{Ε:α->τ}{sz η:Nat}(ad:OA){cap:Nat}{I:List α}{R:Η}[h:Se L ad α Ε sz η cap I R]:F L (ξ Ε sz ad I::R):=(F.perm h.perm).trans F.N9
def F.at{Ο:HP}{R Γ : Η}[h:T7 L Ο R](hr:F (Ο::R) Γ):F L Γ:=(F.perm h.perm).trans hr
def F.swap{Ο fG:HP}:F (Ο::fG::L) (fG::Ο::L):=F.perm (List.Perm.swap _ _ _)
theorem F.c7{Ο:HP}{Γ : Η}(h:F L Γ):F (Ο::L) (Ο::Γ):=h.cons
end
def C7.cell{P:Program}{N:Nat}{env:Env}{L F9:Η}{rs:List ResultVar}{vs cs:τ}{x b ac n:Nat}{t:TypeId}[ht:NT P t n][hp:PO L b ac cs F9](h:env.lookup x=some (.pointer (some ⟨b,0,none⟩)))(hn:cs.length=n)(hr:C7 P N env L rs vs):C7 P N env L (.cell x t::rs) (.agg cs.toArray::vs):=by
 intro θ R a w ea s g K T;have h3:=ea.at_ x _ h;have hb:=s.T5 hp.perm;have U:=run_loadCells_list (P:=P) w ⟨b,0,none⟩ cs (λj v hv=>by rw[fT,eh hb];simpa using hv);rw[hn] at U;simp[List.mapM_cons,hr θ R a w ea s g K T,T,h3,asAddr,loadVar,ht.run,NT.Re,U]
theorem C7.a8{P:Program}{N:Nat}{env:Env}{L F9:Η}{rs:List ResultVar}{vs:τ}{v:Value}{x b ac:Nat}{t:TypeId}[ht:L6 P t][hp:PO L b ac [v] F9](h:env.lookup x=some (.pointer (some ⟨b,0,none⟩)))(hr:C7 P N env L rs vs):C7 P N env L (.cell x t::rs) (v::vs):=by
 intro θ R a w ea s g K T;have h3:=ea.at_ x _ h;have hb:=s.T5 hp.perm;simp[List.mapM_cons,hr θ R a w ea s g K T,T,h3,asAddr,loadVar,ht.run,eh hb]
def ey{α:Type}(f:α->HP)(l:List α):HP:=cx (l.map f)
def F.j5{α:Type}(f:α->HP){L:Η}:F L (ey f []::L):=λ_ _ _ s=>Sat.a8 (Ο:=[]) s
def F.Wl{α:Type}{f:α->HP}{x:α}{l:List α}{L:Η}:F (f x::ey f l::L) (ey f (l++[x])::L):=λθ R w s=>by
 have s1:Sat θ (ey f l::f x::(L++R)) w:=s.perm (List.Perm.swap _ _ _);have s2:=Sat.QB s1;refine Sat.a8 (Ο:=(l++[x]).map f) ?_;simpa using s2
theorem F.UI{α:Type}{f:α->HP}{x:α}{l:List α}{L:Η}:F (f x::ey f l::L) (ey f (x::l)::L):=λθ R w s=>by
 have s1:Sat θ (ey f l::f x::(L++R)) w:=s.perm (List.Perm.swap _ _ _);have s2:=Sat.QB s1;refine Sat.a8 (Ο:=(x::l).map f) ?_;exact s2.perm List.perm_middle
def F.Vf{α:Type}{f:α->HP}{x:α}{l:List α}{L:Η}:F (ey f (x::l)::L) (f x::ey f l::L):=λθ R w s=>by
 have s2:Sat θ (f x::(l.map f++(L++R))) w:=Sat.QB (Ο:=(x::l).map f) s;have s3:Sat θ (l.map f++(f x::(L++R))) w:=s2.perm List.perm_middle.symm;exact(Sat.a8 (Ο:=l.map f) s3).perm (List.Perm.swap _ _ _)
def dJ(k:IntKind)(x:Int):τ:=[.int k x]
def io(k:IntKind)(x:Int):∀u∈dJ k x,u.oneCell' = true:=by simp[dJ,Value.oneCell']
def oB{α:Type}(f:α->Value)(I:List α):I.flatMap (λx=>[f x])=I.map f:=by
 induction I with
 | nil=>rfl
 | cons x I ih=>simp[ih]
end
section
class Xl (P:Program) (ac:Nat):Prop where
 under:P.underlying ac=some .bool
section
variable {P:Program}{env:Env}{L:Η}{ty:TypeId}
def qg{t:TypeId}{a b:Bool}{w:World}{n:Nat}(he:P.underlying t=some .bool):(Op.equalIn (n+1) t (.bool a) (.bool b)).run P w=.ok (a == b) w:=by
 simp[Op.equalIn,run_underlying he]
def Ev.z6{t yt:TypeId}{x y:Operand}{φ ψ:Prop}[Decidable φ][Decidable ψ][ht:Xl P t](O:cq env x=some (.bool (dB φ)))(Y:cq env y=some (.bool (dB ψ))):Ev P L env (.binOp .neq t x y yt) ty (.bool (dB (¬(φ↔ψ)))) :=
 Ev.mk (λ_ _ _ w ea _ _ _ _ _=>by
  have K:=kI (P:=P) (w:=w) (λn=>qg (n:=n) (a:=dB φ) (b:=dB ψ) ht.under)
  have T:(!(dB φ == dB ψ))=dB (¬(φ↔ψ)):=by
   rw[dH,dH,dH];by_cases h:φ<;>by_cases h' : ψ<;>simp[h,h']
  simp[execOp,aJ ea O,aJ ea Y,eqGuard,binOp,K,T])
def Ev.z7{t yt:TypeId}{x y:Operand}{φ ψ:Prop}[Decidable φ][Decidable ψ][ht:Xl P t](O:cq env x=some (.bool (dB φ)))(Y:cq env y=some (.bool (dB ψ))):Ev P L env (.binOp .eql t x y yt) ty (.bool (dB (φ↔ψ))) :=
 Ev.mk (λ_ _ _ w ea _ _ _ _ _=>by
  have K:=kI (P:=P) (w:=w) (λn=>qg (n:=n) (a:=dB φ) (b:=dB ψ) ht.under)
  have T:(dB φ == dB ψ)=dB (φ↔ψ):=by
   rw[dH,dH,dH];by_cases h:φ<;>by_cases h' : ψ<;>simp[h,h']
  simp[execOp,aJ ea O,aJ ea Y,eqGuard,binOp,K,T])
def Al(a b:ByteArray):(a.toList == b.toList)=decide (a=b):=by
 rw[ByteArray.toList_eq,ByteArray.toList_eq];cases a with|mk a=>cases b with|mk b =>
 by_cases h:a=b
 .subst h;simp
 .simp[h]
def Ev.t8{t yt:TypeId}{x y:Operand}{a b:ByteArray}(O:cq env x=some (.string a))(Y:cq env y=some (.string b)):Ev P L env (.binOp .eql t x y yt) ty (.bool (dB (a=b))) :=
 Ev.mk (λ_ _ _ w ea _ _ _ _ _=>by
  simp[execOp,aJ ea O,aJ ea Y,eqGuard,binOp,Op.stringOp,dH,Al])
def Ev.r9{t yt:TypeId}{x y:Operand}{a b:ByteArray}(O:cq env x=some (.string a))(Y:cq env y=some (.string b)):Ev P L env (.binOp .neq t x y yt) ty (.bool (dB (¬a=b))) :=
 Ev.mk (λ_ _ _ w ea _ _ _ _ _=>by
  simp[execOp,aJ ea O,aJ ea Y,eqGuard,binOp,Op.stringOp,dH,Al])
def og(I:List Int)(k:IntKind):I.flatMap (dJ k)=I.map (Value.int k):=oB _ I
def Ev.k9{s t:TypeId}{x:Operand}{ad:OA}{n c η sz bb:Nat}{z:τ}{I:List Int}[hs:M7 P s η sz bb z][he:QX P η .u8][ht:UF P t][hr:F2 L ad Int (dJ .u8) 1 I](O:cq env x=some (.slice ad n c))(hn:n=I.length) :
  Ev P L env (.convert s t x) ty (.string (strOfNums I)) :=
 Ev.mk (λθ R _ w ea st _ _ _ _=>by
  subst hn;obtain⟨K,T⟩:=hr.rd θ R w st
  have hc:(convert s t (.slice ad I.length c)).run P w=.ok (.string (strOfNums I)) w:=by
   rw[run_convert_bytes_string w s t η ad I.length c hs.under he.under ht.under];rcases T with rfl|⟨a,rfl,h3⟩
   .cases ad with
    | none=>simp[Conv.bytesToString,strOfNums];rfl
    | some a =>
     have U:(loadCells a 0).run P w=.ok (([]:List Int).map (Value.int .u8)).toArray w:=by simp[loadCells,loadCellsFrom]
     exact(run_bytesToString w a 0 c [] U).trans (by simp[strOfNums];rfl)
   .rw[og] at h3;have U:=run_loadCells_list (P:=P) w a (I.map (Value.int .u8)) h3;rw[List.length_map] at U;rw[run_bytesToString w a I.length c I U,foldl_push_bytes];simp[strOfNums,ByteArray.empty,ByteArray.emptyWithCapacity];rfl
  simp[execOp,aJ ea O,hc])
def nQ{α:Type}[Inhabited α](f:Nat->α)(x:α)(n:Nat)(h:∀i,i<n->f i=x):(Array.range n).map f=(List.replicate n x).toArray:=by
 apply Array.ext
 .simp
 .intro i K T;simp at K ⊢;exact h i K
def Ef.makeSlice{t:TypeId}{x y:Operand}{η bb:Nat}{z0:Value}{α:Type}(Ε:α->τ)(e:α){n:Int}[ht:M7 P t η 1 bb [z0]](O:cq env x=some (.int .i64 n))(Y:cq env y=some (.int .i64 n))(he:Ε e=[z0])(h0:0<=n)(K:n*bb<=16777216)(T:n<=1000000000) :
  Ef P L env (.makeSlice t x y) ty (λv Γ=>∃b,v=.slice (some ⟨b,0,none⟩) n.toNat n.toNat/\Γ = Ω Ε 1 η (some ⟨b,0,none⟩) n.toNat (List.replicate n.toNat e)::L) :=
 Ef.val (λθ R a w ea s B pos af g=>⟨.slice (some ⟨w.heap.size,0,none⟩) n.toNat n.toNat,w.alloc (.cells (List.replicate n.toNat z0).toArray η),_,by
  obtain⟨ii,zz,i1,i2,i3,i4,i5⟩:=ht.Β
  have hz:zz.cells=#[z0]:=by
   have:=i3
   apply Array.ext';simpa using this
  have hm:madeCells zz.cells (n.toNat*ii.size)=(List.replicate n.toNat z0).toArray:=by
   rw[hz,i4,Nat.mul_one];exact nQ _ _ _ (λi _=>by simp[Nat.mod_one])
  have hk:=run_make (P:=P) w t η ii zz ht.under i1 i2 .i64 .i64 n n h0 (Int.le_refl _) (by rw[i5,Int.mul_comm];omega) (by omega);rw[hm] at hk
  simp[execOp,aJ ea O,aJ ea Y,hk],⟨_,rfl,rfl⟩,by
   have s1:=s.alloc (o:=.cells (List.replicate n.toNat z0).toArray η);refine Sat.RO (Ε:=Ε) (sz:=1) (cap:=n.toNat) (I:=List.replicate n.toNat e) (L:=L++R) s1 ?_ (by simp) (by simp only[maxLen];omega) (by simp) ?_
   .intro x O;rw[List.eq_of_mem_replicate O,he];rfl
   .have:∀k,(List.replicate k e).flatMap Ε=List.replicate k z0:=by
     intro k;induction k with
     | zero=>rfl
     | succ k ih=>rw[List.replicate_succ,List.flatMap_cons,ih,he];rfl
    rw[this];simp⟩)
def Ef.cL{op:Op}{Γ : Η}{post:Value->Η->Prop}(h:F L Γ)(k:Ef P Γ env op ty post):Ef P L env op ty post:=λθ R a w o next F5 ha s K T hn=>k θ R a w o next F5 ha (h θ R w s) K T hn
def Ef.j9{f:FuncId}{I:Array Operand}{ats:Array TypeId}{vs:τ}{post:Value->Η->Prop}{Ο:HP}{R:Η}[h:T7 L Ο R]
  (c:Τ P f vs.toArray (Ο::R) post) (hv:fD env I.toList=some vs):Ef P L env (.call { callee:=.value (.func f),args:=I,argTypes:=ats }) ty post:=Ef.cL (F.perm h.perm) (Ef.d8 c hv)
def zP{α:Type}[Inhabited α]{Ε:α->τ}{sz o:Nat}{e:α}{v:Value}:∀{I:List α} {j:Nat},(∀x∈I,(Ε x).length=sz)->j<I.length->o<sz->Ε e=(Ε I[j]!).set o v->(I.set j e).flatMap Ε=(I.flatMap Ε).set (j*sz+o) v
 | [],j,_,hj,_,_=>by simp at hj
 | x::I,0,h,_,ho,he=>by
  have O:=h x (by simp);simp only[List.set_cons_zero,List.flatMap_cons,Nat.zero_mul,Nat.zero_add];rw[List.set_append,Χ (by omega),he];simp
 | x::I,j+1,h,hj,ho,he=>by
  have O:=h x (by simp);simp only[List.set_cons_succ,List.flatMap_cons];have e1:¬((j+1)*sz+o<(Ε x).length):=by rw[O,Nat.succ_mul];omega
  rw[List.set_append,Ν e1];have e2:(j+1)*sz+o - (Ε x).length=j*sz+o:=by rw[O,Nat.succ_mul];omega
  rw[e2,zP (λy Y=>h y (by simp[Y])) (by simpa using hj) ho (by simpa using he)]
def Ef.d7{t:TypeId}{x y:Operand}{ad:OA}{sz j o η cap:Nat}{α:Type}[Inhabited α]{Ε:α->τ}{I:List α}{F9:Η}{v:Value}(e:α)[ht:L6 P t][hp:Se L ad α Ε sz η cap I F9]
  (O:cq env x=some (.pointer (Pb ad sz j o))) (Y:cq env y=some v) (he:Ε e=(Ε I[j]!).set o v) (K:v.oneCell' = true) (hj:j<I.length) (ho:o<sz) :
  Ef P L env (.store t x y) ty (λ_ Γ=>Γ = Ω Ε sz η ad cap (I.set j e)::F9) :=
 Ef.skip (λθ R ρ w ea s b0 pos af g=>by
  have s1:=s.perm (hp.perm.append_right R);obtain⟨p1,p2,p3,p4⟩:=Sat.QY s1;rcases p4 with⟨rfl,rfl⟩|⟨gb,M,rfl,f1,f2,f3⟩
  .omega
  .have hb:w.heap[gb]? = some (.cells M η (0,0)):=f3.Nr
   have a5:j*sz+o<I.length*sz:=by
    have:(j+1)*sz<=I.length*sz:=Nat.mul_le_mul_right _ hj
    rw[Nat.succ_mul] at this;omega
   have a6:j*sz+o<M.size:=by
    have:=Nat.mul_le_mul_right sz p2
    omega
   have a3:∀y∈I.set j e,(Ε y).length=sz:=by
    intro y a9;rcases List.mem_or_eq_of_mem_set a9 with h|h
    .exact p1 y h
    .subst h;rw[he,List.length_set];exact p1 _ (by rw[List.getElem!_eq_getElem?_getD,List.getElem?_eq_getElem hj];exact List.getElem_mem _)
   have B:w.cell? ⟨gb,j*sz+o,none⟩=some M[j*sz+o]:=by rw[eh hb];simp[a6]
   have a4:w.frozen? ⟨gb,j*sz+o,none⟩=false:=by simp[World.frozen?,hb]
   have a2:v.cells=#[v]:=by cases v<;>first|rfl|cases K
   refine⟨w.setCell ⟨gb,j*sz+o,none⟩ v,_,?_,rfl,?_⟩
   .have a7 : cq env x=some (.pointer (some ⟨gb,j*sz+o,none⟩)):=by rw[O];simp only[Pb,Option.map_some,fT]
    simp[execOp,aJ ea a7,aJ ea Y,Instr.storeAt,Instr.sureAddr,storeVar,L6.Re,a2,storeCells,Addr.add,run_store _ _ _ _ _ K,B,a4]
   .have s3:Sat θ (jC gb (.cells (M.setIfInBounds (j*sz+o) v) η (0,0))::(F9++R)) (w.setCell ⟨gb,j*sz+o,none⟩ v):=by
     refine Sat.update f3 ⟨s.1.tape,s.1.os,s.1.output,s.1.drawn⟩ ?_ (λk x hk O=>by rw[lY v hk];exact O);rw[mq v hb]
    refine Sat.RO (L:=F9++R) s3 a3 (by simpa using p2) p3 (by simpa using f1) ?_;rw[zP p1 hj ho he,<-f2];simp[List.take_set])
def Ef.g8{t:TypeId}{x y:Operand}{ad:OA}{j η cap:Nat}{k:IntKind}{n:Int}{I:List Int}{F9:Η}[ht:L6 P t][hp:Se L ad Int (dJ k) 1 η cap I F9]
  (O:cq env x=some (.pointer (Pb ad 1 j 0))) (Y:cq env y=some (.int k n)) (hj:j<I.length) :
  Ef P L env (.store t x y) ty (λ_ Γ=>Γ = Ω (dJ k) 1 η ad cap (I.set j n)::F9):=Ef.d7 n O Y rfl rfl hj (by omega)
def Ev.l0{s t:TypeId}{x:Operand}{k:IntKind}{a:Int}[hs:QX P s k][ht:QX P t .i64](O:cq env x=some (.int k a))(h0 : -9223372036854775808<=a)(K:a<=9223372036854775807):Ev P L env (.convert s t x) ty (.int .i64 a):=by
 have:=Ev.conv (P:=P) (L:=L) (ty:=ty) (s:=s) (t:=t) O
 rwa [IntWalk.i64_in a ⟨h0,K⟩] at this
def Ev.m5{s t:TypeId}{x:Operand}{k:IntKind}{a:Int}[hs:QX P s k][ht:QX P t .u8](O:cq env x=some (.int k a))(h0:0<=a)(K:a<=255):Ev P L env (.convert s t x) ty (.int .u8 a):=by
 have:=Ev.conv (P:=P) (L:=L) (ty:=ty) (s:=s) (t:=t) O
 rwa [IntWalk.u8_in a ⟨h0,K⟩] at this
def Ev.k8{s t:TypeId}{x:Operand}{k:IntKind}{a:Int}[hs:QX P s k][ht:QX P t .u64](O:cq env x=some (.int k a))(h0:0<=a)(K:a<=18446744073709551615):Ev P L env (.convert s t x) ty (.int .u64 a):=by
 have:=Ev.conv (P:=P) (L:=L) (ty:=ty) (s:=s) (t:=t) O
 rwa [IntWalk.u64_in a ⟨h0,K⟩] at this
end
end
section
section
variable {P:Program}{N:Nat}{env:Env}{L:Η}{Ξ:F4}{ops:Array Oper}{cN:List Oper}{Μ i:Nat}{op:Op}{ty:TypeId}{pos:String}{af:Array Edge}{X:Η}{f:Nat->Value}{g:Nat->Η}{done:List Nat}{wk:List K4}{E8:List PE}
theorem GO.c7(he:Ef P L env op ty (λ_ Γ=>Γ = X))(h:GO P N ops cN env X Ξ):GO P N ops (⟨none,op,ty,pos,af,none⟩::cN) env L Ξ:=GO.NH he (by rintro _ _ rfl;exact h)
def GO.Ti(he:Ef P L env op ty (λv Γ=>∃b,v=f b/\Γ = g b))(hd:Μ<N)(h:∀b,GO P N ops cN ((Μ,f b)::env) (g b) Ξ):GO P N ops (⟨some Μ,op,ty,pos,af,none⟩::cN) env L Ξ:=GO.ef he hd (by rintro _ _⟨b,rfl,rfl⟩;exact h b)
theorem δ.a8(he:Ef P L env op ty (λ_ Γ=>Γ = X))(h:ms P N ops done i wk E8 [] env X Ξ):δ P N ops done (.ef i) wk none op ty E8 env L Ξ:=δ.NH he (by rintro _ _ rfl;exact h)
def δ.Ti(he:Ef P L env op ty (λv Γ=>∃b,v=f b/\Γ = g b))(hd:Μ<N)(h:∀b,ms P N ops done i wk E8 [] ((Μ,f b)::env) (g b) Ξ):δ P N ops done (.ef i) wk (some Μ) op ty E8 env L Ξ:=δ.ef he hd (by rintro _ _⟨b,rfl,rfl⟩;exact h b)
end
class En (P:Program) (f:FuncId) (fn:outParam Func) (N:outParam Nat):Prop where
 en:Enters P f
 hf:P.funcs[f]? = some fn
 hN:fn.ntmps=N
def Τ.bd{P:Program}{f:FuncId}{fn:Func}{c:Code}{args:τ}{L:Η}{post:Value->Η->Prop}{rs:List ResultVar}{N:Nat}[e:En P f fn N](h:Α P N c (Pa args 0) L (Ends P N rs post))(hb:fn.body=some c:=by exact rfl)(hr:fn.results=rs.toArray:=by exact rfl)(hn:args.length<=N:=by simp):Τ P f args.toArray L post:=Τ.body N e.en e.hf hb hr e.hN hn h
def KX.en{P:Program}{N:Nat}{env:Env}{L:Η}{rs:List ResultVar}{post:Value->Η->Prop}{vs:τ}{Γ : Η}(h3:post (Pt vs) Γ)(K:C7 P N env L rs vs:=by exact C7.tmps rfl)(T:F L Γ:=by repeat (first|exact F.refl _|exact F.nil _|refine F.l9 ?_|refine F.trans F.drop ?_)):Ends P N rs post .ret env L:=KX.a8 K T h3
def GO.ca{P:Program}{N:Nat}{env:Env}{L:Η}{Ξ:F4}{Μ:Nat}{f:FuncId}{I:Array Operand}{ats:Array TypeId}{ty:TypeId}{vs:τ}{post:Value->Η->Prop}{B:Array Oper}{cN:List Oper}{pos:String}{af:Array Edge}(c:Τ P f vs.toArray L post)(h:∀v Γ,post v Γ->GO P N B cN ((Μ,v)::env) Γ Ξ)(hv:fD env I.toList=some vs:=by exact rfl)(hd:Μ<N:=by decide):GO P N B (⟨some Μ,.call {callee:=.value (.func f),args:=I,argTypes:=ats},ty,pos,af,none⟩::cN) env L Ξ:=GO.ef (Ef.d8 c hv) hd h
def GO.cr{P:Program}{N:Nat}{env:Env}{L:Η}{Ξ:F4}{Μ:Nat}{f:FuncId}{I:Array Operand}{ats:Array TypeId}{ty:TypeId}{vs:τ}{B:Array Oper}{cN:List Oper}{pos:String}{af:Array Edge}{a:Value}{ε:Η}(c:Τ P f vs.toArray L (λv Γ=>v=a/\Γ = ε))(h:GO P N B cN ((Μ,a)::env) ε Ξ)(hv:fD env I.toList=some vs:=by exact rfl)(hd:Μ<N:=by decide):GO P N B (⟨some Μ,.call {callee:=.value (.func f),args:=I,argTypes:=ats},ty,pos,af,none⟩::cN) env L Ξ:=GO.ef (Ef.d8 c hv) hd (by rintro _ _⟨rfl,rfl⟩;exact h)
def δ.ca{P:Program}{N:Nat}{env:Env}{L:Η}{Ξ:F4}{Μ:Nat}{f:FuncId}{I:Array Operand}{ats:Array TypeId}{ty:TypeId}{vs:τ}{post:Value->Η->Prop}{M:Array Oper}{done:List Nat}{wk:List K4}{B:List PE}{i:Nat}(c:Τ P f vs.toArray L post)(h:∀v Γ,post v Γ->ms P N M done i wk B [] ((Μ,v)::env) Γ Ξ)(hv:fD env I.toList=some vs:=by exact rfl)(hd:Μ<N:=by decide):δ P N M done (.ef i) wk (some Μ) (.call {callee:=.value (.func f),args:=I,argTypes:=ats}) ty B env L Ξ:=δ.ef (Ef.d8 c hv) hd h
def δ.cr{P:Program}{N:Nat}{env:Env}{L:Η}{Ξ:F4}{Μ:Nat}{f:FuncId}{I:Array Operand}{ats:Array TypeId}{ty:TypeId}{vs:τ}{M:Array Oper}{done:List Nat}{wk:List K4}{B:List PE}{i:Nat}{a:Value}{ε:Η}(c:Τ P f vs.toArray L (λv Γ=>v=a/\Γ = ε))(h:ms P N M done i wk B [] ((Μ,a)::env) ε Ξ)(hv:fD env I.toList=some vs:=by exact rfl)(hd:Μ<N:=by decide):δ P N M done (.ef i) wk (some Μ) (.call {callee:=.value (.func f),args:=I,argTypes:=ats}) ty B env L Ξ:=δ.ef (Ef.d8 c hv) hd (by rintro _ _⟨rfl,rfl⟩;exact h)
def Α.dr{P:Program}{env:Env}{L:Η}{Ξ:F4}(N A:Nat){l:List Oper}(wk:List K4)[hK:RP Ξ](h:GP P N l.toArray [] wk [] env L Ξ)(hm:P.follows .mixedOrders=true:=by exact mixed)(hp:(jt l.toArray [] wk && (wk.length == l.toArray.size) && Region.noSelect l.toArray && Tf l.toArray)=true:=by kernel_rfl):Α P N (.region A l.toArray true) env L Ξ:=Α.g9 wk hm hp h
def Xn(n:Nat):Code->Bool
 | .region i _ _=>Nat.beq i n
 | _=>false
def Na(n:Nat):Code->Bool
 | .seq x _=>Xn n x
 | _=>false
def Α.sn{P:Program}{N:Nat}{env:Env}{L:Η}{Ξ:F4}(n:Nat){x y:Code}(h:Α P N x env L (Ξ.seq λB Γ=>Α P N y B Γ Ξ))(hb:Xn n x=false:=by rfl):Α P N (.seq x y) env L Ξ:=Α.seq h
def Α.sm{P:Program}{N:Nat}{env:Env}{L:Η}{Ξ:F4}(n:Nat){x y:Code}(h:Α P N x env L (Ξ.seq λB Γ=>Α P N y B Γ Ξ))(hb:Na n x=false:=by rfl):Α P N (.seq x y) env L Ξ:=Α.seq h
abbrev F3(a:Value)(ε:Η):Value->Η->Prop:=λv Γ=>v=a/\Γ = ε
structure Hid (ψ:Prop):Prop where
 out:ψ
def Ζ{φ:Prop}(h:φ:=by kernel_rfl):φ:=h
def ae{φ:Prop}(h:φ:=by decide):φ:=h
def ak{φ:Prop}(h:φ:=by repeat (first|exact F.refl _|exact F.nil _|refine F.l9 ?_|refine F.trans F.drop ?_)):φ:=h
def aF{φ:Prop}(h:φ:=by exact C7.tmps rfl):φ:=h
def cj{φ:Prop}(h:φ:=by simp):φ:=h
def bh{φ:Prop}(h:φ:=by rfl):φ:=h
def hZ{φ:Prop}(h:φ:=by simp;omega):φ:=h
def uQ{φ:Prop}(h:φ:=by dsimp only;omega):φ:=h
def fQ{φ:Prop}(h:φ:=by repeat (first|exact F.refl _|apply F.take)):φ:=h
def D{φ:Prop}(h:φ:=by omega):φ:=h
theorem aj{φ:Prop}(h:φ:=by grind):φ:=h
def bC(i:Nat):((i+1:Nat):Int)=(i:Int)+1:=by omega
def ut{α:Type}{p:α->Prop}:∀x∈([]:List α),p x:=λ_ h=>hD h List.not_mem_nil
abbrev av(b:Nat):Value:=.pointer (some ⟨b,0,none⟩)
abbrev J(x:Int):Value:=.int .i64 x
abbrev ah(a:OA)(n c:Nat):Value:=.slice a n c
abbrev bF(l:τ):Value:=.agg l.toArray
def ec:type_of% @Array.length_toList:=@Array.length_toList
def iY:type_of% @Bool.and_eq_true:=@Bool.and_eq_true
def fS:type_of% @Bool.false_eq_true:=@Bool.false_eq_true
def fo:type_of% @Bool.false_ne_true:=@Bool.false_ne_true
def dC:type_of% @Int.add_zero:=@Int.add_zero
def jd:type_of% @Int.ediv_nonneg:=@Int.ediv_nonneg
def dp:type_of% @Int.emod_lt_of_pos:=@Int.emod_lt_of_pos
def eH:type_of% @Int.emod_nonneg:=@Int.emod_nonneg
def dM:type_of% @Int.fdiv_eq_ediv_of_nonneg:=@Int.fdiv_eq_ediv_of_nonneg
def bE:type_of% @Int.le_refl:=@Int.le_refl
def bD:type_of% @Int.toNat_natCast:=@Int.toNat_natCast
def aH:type_of% @List.append_assoc:=@List.append_assoc
def aI:type_of% @List.append_nil:=@List.append_nil
def au{α:Type _}{a:α}{b c:List α}:(a::b)++c=a::(b++c):=rfl
theorem bY:type_of% @List.drop_eq_getElem_cons:=@List.drop_eq_getElem_cons
theorem bU:type_of% @List.drop_of_length_le:=@List.drop_of_length_le
def cd:type_of% @List.eq_nil_of_length_eq_zero:=@List.eq_nil_of_length_eq_zero
def fM:type_of% @List.eq_of_mem_replicate:=@List.eq_of_mem_replicate
theorem eX:type_of% @List.ext_getElem:=@List.ext_getElem
def gJ:type_of% @List.ext_getElem?:=@List.ext_getElem?
def dE:type_of% @List.filter_cons_of_pos:=@List.filter_cons_of_pos
def dL:type_of% @List.flatMap_append:=@List.flatMap_append
def aT:type_of% @List.flatMap_cons:=@List.flatMap_cons
def cY:type_of% @List.flatMap_nil:=@List.flatMap_nil
def dT:type_of% @List.getElem_append_right:=@List.getElem_append_right
def eW:type_of% @List.getElem_map:=@List.getElem_map
def cX:type_of% @List.getElem_mem:=@List.getElem_mem
def ay:type_of% @List.length_append:=@List.length_append
def aK:type_of% @List.length_cons:=@List.length_cons
def cB:type_of% @List.length_drop:=@List.length_drop
def fx:type_of% @List.length_filter_le:=@List.length_filter_le
theorem al:type_of% @List.length_map:=@List.length_map
def bu:type_of% @List.length_nil:=@List.length_nil
def bT:type_of% @List.length_set:=@List.length_set
def aX:type_of% @List.length_singleton:=@List.length_singleton
def aP:type_of% @List.length_take:=@List.length_take
def cA:type_of% @List.lookup_cons:=@List.lookup_cons
def aQ:type_of% @List.map_append:=@List.map_append
theorem aV:type_of% @List.map_congr_left:=@List.map_congr_left
def aq:type_of% @List.map_cons:=@List.map_cons
def co:type_of% @List.map_map:=@List.map_map
def bz:type_of% @List.map_nil:=@List.map_nil
def cI:type_of% @List.mem_append_left:=@List.mem_append_left
def cw:type_of% @List.mem_append_right:=@List.mem_append_right
def fI:type_of% @List.mem_cons:=@List.mem_cons
def az:type_of% @List.mem_cons_of_mem:=@List.mem_cons_of_mem
theorem aA:type_of% @List.mem_cons_self:=@List.mem_cons_self
theorem PB:type_of% @List.mem_map_of_mem:=@List.mem_map_of_mem
def eM:type_of% @List.mem_of_mem_drop:=@List.mem_of_mem_drop
def cp:type_of% @List.mem_of_mem_take:=@List.mem_of_mem_take
def ax{α:Type _}{b:List α}:[]++b=b:=rfl
def gI:type_of% @List.nodup_append:=@List.nodup_append
def eD:type_of% @List.nodup_cons:=@List.nodup_cons
def dq:type_of% @List.nodup_nil:=@List.nodup_nil
def aG:type_of% @List.not_mem_nil:=@List.not_mem_nil
def fP:type_of% @List.of_mem_zip:=@List.of_mem_zip
def dD:type_of% @List.pairwise_singleton:=@List.pairwise_singleton
theorem dS:type_of% @List.perm_middle:=@List.perm_middle
theorem dc:type_of% @List.range_succ:=@List.range_succ
def fw:type_of% @List.set_append_right:=@List.set_append_right
def fR:type_of% @List.set_cons_zero:=@List.set_cons_zero
theorem eC:type_of% @List.set_getElem_self:=@List.set_getElem_self
def gH:type_of% @List.size_toArray:=@List.size_toArray
def dG:type_of% @List.sum_append:=@List.sum_append
def aS:type_of% @List.sum_cons:=@List.sum_cons
theorem cK:type_of% @List.take_append_drop:=@List.take_append_drop
theorem cz:type_of% @List.take_length:=@List.take_length
theorem aM:type_of% @List.take_of_length_le:=@List.take_of_length_le
theorem aB:type_of% @List.take_succ_eq_append_getElem:=@List.take_succ_eq_append_getElem
def bj:type_of% @List.take_zero:=@List.take_zero
def dh:type_of% @Nat.add_assoc:=@Nat.add_assoc
def cH:type_of% @Nat.add_le_add:=@Nat.add_le_add
def dY:type_of% @Nat.add_mul:=@Nat.add_mul
def dx:type_of% @Nat.add_zero:=@Nat.add_zero
def fO:type_of% @Nat.div_add_mod:=@Nat.div_add_mod
def fu:type_of% @Nat.div_lt_iff_lt_mul:=@Nat.div_lt_iff_lt_mul
def aW:type_of% @Nat.le_of_ble_eq_true:=@Nat.le_of_ble_eq_true
def an:type_of% @Nat.le_refl:=@Nat.le_refl
def aO:type_of% @Nat.le_trans:=@Nat.le_trans
def dF:type_of% @Nat.min_eq_left:=@Nat.min_eq_left
def dX:type_of% @Nat.mod_lt:=@Nat.mod_lt
def bR:type_of% @Nat.mul_le_mul_right:=@Nat.mul_le_mul_right
def ga:type_of% @Nat.mul_one:=@Nat.mul_one
def fN:type_of% @Nat.not_lt_zero:=@Nat.not_lt_zero
def ic:type_of% @Nat.succ_mul:=@Nat.succ_mul
def dw:type_of% @Nat.zero_add:=@Nat.zero_add
def aC:type_of% @Nat.zero_le:=@Nat.zero_le
def ik:type_of% @Option.map_none:=@Option.map_none
def fm:type_of% @Option.map_some:=@Option.map_some
def aD{φ:Prop}(h:φ:=by repeat (first|exact OL.nil _|refine OL.cons rfl ?_)):φ:=h
def zU{φ:Prop}(h:φ:=by first|((with_reducible apply Ev.u7);exact Ev.move rfl)|((with_reducible apply Ev.p7);exact Ev.assign rfl)|((with_reducible apply Ev.u6);first|exact Ev.n8 rfl rfl|exact Ev.n5 rfl rfl)|((with_reducible apply Ev.o6);exact Ev.extract rfl rfl)|((with_reducible apply Ev.x6);exact Ev.nilCheck rfl)|((with_reducible apply Ev.p6);exact Ev.n9 rfl rfl D D)|((with_reducible apply Ev.x7);first|exact Ev.eql rfl rfl|exact Ev.neq rfl rfl|exact Ev.lss rfl rfl|exact Ev.leq rfl rfl|exact Ev.gtr rfl rfl|exact Ev.geq rfl rfl|exact Ev.add rfl rfl D D|exact Ev.sub rfl rfl D D|exact Ev.mul rfl rfl D D|exact Ev.quo rfl rfl D D D|exact Ev.y6 rfl rfl D D D|exact Ev.rem rfl rfl D D|exact Ev.x9 rfl rfl D|exact Ev.u0 rfl rfl|exact Ev.t6 rfl rfl|exact Ev.p5 rfl rfl|exact Ev.w0 rfl rfl|exact Ev.z7 rfl rfl|exact Ev.z6 rfl rfl|exact Ev.t8 rfl rfl|exact Ev.r9 rfl rfl|exact Ev.w9 rfl rfl bh bh|exact Ev.w6 rfl rfl bh bh)|((with_reducible apply Ev.z8);first|exact Ev.y8 rfl|exact Ev.y9 rfl|exact Ev.not rfl|exact Ev.o7 rfl|exact Ev.neg rfl D D)|((with_reducible apply Ev.q7);first|exact Ev.build rfl rfl|exact Ev.u4 rfl rfl)|((with_reducible apply Ev.u9);exact Ev.makeFunc rfl rfl)|((with_reducible apply Ev.p9);first|exact Ev.p8 rfl rfl D D|exact Ev.n7 rfl rfl D D|exact Ev.o9 rfl rfl rfl D D D|exact Ev.o8 rfl rfl rfl D D D)|((with_reducible apply Ev.v6);first|exact Ev.w8 rfl|exact Ev.t7 rfl|exact Ev.min2 rfl rfl|exact Ev.max2 rfl rfl)|((with_reducible apply Ev.l7);first|exact Ev.fieldAddr rfl|exact Ev.d7 rfl (by first|omega|exact aW rfl)|exact Ev.f7 rfl)|((with_reducible apply Ev.m6);first|exact Ev.l0 rfl D D|exact Ev.m5 rfl D D|exact Ev.k8 rfl D D|exact Ev.conv rfl|exact Ev.k9 rfl (by first|rfl|omega|(simp;first|done|omega)))):φ:=h
def zT{φ:Prop}(h:φ:=by first|((with_reducible apply Ev.o0);first|exact Ev.d8 rfl rfl|exact Ev.f5 rfl (by first|omega|exact aW rfl) ae rfl|exact Ev.c9 rfl bh|exact Ev.d9 rfl (by first|omega|exact aW rfl)|exact Ev.c8 rfl rfl)|((with_reducible apply Ev.j7);first|exact Ev.indexAddr rfl rfl D (by first|omega|exact aW rfl) (by first|omega|exact aW rfl)|exact Ev.l9 rfl rfl D D|exact Ev.m7 rfl rfl (by first|omega|exact aW rfl) D D)|((with_reducible apply Ev.l7);first|exact Ev.fieldAddr rfl|exact Ev.d7 rfl (by first|omega|exact aW rfl)|exact Ev.f7 rfl)|((with_reducible apply Ev.m6);first|exact Ev.l0 rfl D D|exact Ev.m5 rfl D D|exact Ev.k8 rfl D D|exact Ev.conv rfl|exact Ev.k9 rfl (by first|rfl|omega|(simp;first|done|omega)))):φ:=h
def zS{φ:Prop}(h:φ:=by first|((with_reducible apply Ev.o0);first|exact Ev.d8 rfl rfl|exact Ev.f5 rfl (by first|omega|exact aW rfl) ae rfl|exact Ev.c9 rfl bh|exact Ev.d9 rfl (by first|omega|exact aW rfl)|exact Ev.c8 rfl rfl)|((with_reducible apply Ev.j7);first|exact Ev.indexAddr rfl rfl D (by first|omega|exact aW rfl) (by first|omega|exact aW rfl)|exact Ev.g9 rfl rfl D D|exact Ev.l9 rfl rfl D D|exact Ev.m7 rfl rfl (by first|omega|exact aW rfl) D D)|((with_reducible apply Ev.l7);first|exact Ev.fieldAddr rfl|exact Ev.d7 rfl (by first|omega|exact aW rfl)|exact Ev.f7 rfl)|((with_reducible apply Ev.m6);first|exact Ev.l0 rfl D D|exact Ev.m5 rfl D D|exact Ev.k8 rfl D D|exact Ev.conv rfl|exact Ev.k9 rfl (by first|rfl|omega|(simp;first|done|omega)))):φ:=h
def zV{φ:Prop}(h:φ:=by first|exact zS|exact zU):φ:=h
def Nc{φ ψ:Prop}(k:ψ)(h:Hid ψ->φ:=by intro k;(repeat1' (first|((with_reducible apply GO.a8);first|refine GO.ev zV ae ?_|refine GO.Ti (Ef.j7 rfl) ae ?_|refine GO.Ti (Ef.k8 rfl rfl) ae ?_|refine GO.Ti (Ef.alloc) ae ?_|refine GO.Ti (Ef.lit rfl rfl ae rfl) ae ?_)|((with_reducible apply GO.d8);first|refine GO.f7 rfl rfl ae ?_|refine GO.f8 rfl rfl ae ?_|refine GO.c9 rfl rfl ae ?_)|with_reducible apply GO.nil|((with_reducible apply GO.f9);first|refine GO.c7 (Ef.g8 rfl rfl (by first|omega|exact aW rfl)) ?_|refine GO.c7 (Ef.f9 rfl rfl rfl rfl) ?_|refine GO.c7 (Ef.f8 rfl rfl bh bh (by first|exact RN.one _|simp[Value.oneCell'])) ?_|refine GO.c7 (Ef.f7 rfl rfl bh rfl (by first|exact RN.one _|simp[Value.oneCell'])) ?_)|((with_reducible apply GP.d9);first|refine GP.go rfl ?_|refine GP.d7 rfl rfl rfl ae ?_|refine GP.d8 rfl rfl rfl ae ?_|refine GP.c9 rfl rfl rfl ae ?_)|((with_reducible apply δ.c8);first|refine δ.M8 zU ae ?_|refine δ.Ob zT ae ?_|refine δ.M8 (by((with_reducible apply Ev.j7);exact Ev.g9 rfl rfl D D)) ae ?_)|with_reducible apply GP.nil|((with_reducible apply δ.c9);first|refine δ.Ti (Ef.j7 rfl) ae ?_|refine δ.Ti (Ef.k8 rfl rfl) ae ?_|refine δ.Ti (Ef.alloc) ae ?_|refine δ.Ti (Ef.lit rfl rfl ae rfl) ae ?_)|((with_reducible apply δ.c7);first|refine δ.a8 (Ef.g8 rfl rfl (by first|omega|exact aW rfl)) ?_|refine δ.a8 (Ef.f9 rfl rfl rfl rfl) ?_|refine δ.a8 (Ef.f8 rfl rfl bh bh (by first|exact RN.one _|simp[Value.oneCell'])) ?_|refine δ.a8 (Ef.f7 rfl rfl bh rfl (by first|exact RN.one _|simp[Value.oneCell'])) ?_)|with_reducible apply ms.nil|with_reducible apply CB.tt|with_reducible apply CB.ff|with_reducible refine CB.pos D ?_|with_reducible refine CB.neg D ?_|with_reducible refine CB.pos (by simp;first|done|omega) ?_|with_reducible refine CB.neg (by simp;first|done|omega) ?_|with_reducible apply GB.tt|with_reducible apply GB.ff|with_reducible refine GB.pos D ?_|with_reducible refine GB.neg D ?_|with_reducible refine GB.pos (by simp;first|done|omega) ?_|with_reducible refine GB.neg (by simp;first|done|omega) ?_|with_reducible refine KX.f7 ?_|with_reducible refine KX.d7 ?_|with_reducible refine KX.f5 ?_|with_reducible refine KX.f9 ?_|with_reducible refine KX.d8 ?_|with_reducible refine KX.d9 ?_|with_reducible refine KX.c7 ?_|with_reducible refine KX.c9 ae ?_|with_reducible apply Α.block|with_reducible apply Α.region|with_reducible apply Α.skip|with_reducible apply Α.exit|with_reducible apply Α.ret|refine Α.cond rfl ?_));exact Hid.out k):φ:=h ⟨k⟩
def run{φ ψ:Prop}(k:ψ)(h:Hid ψ->φ:=by intro k;(repeat1' (first|refine Nc ?_|((with_reducible apply ms.a8);first|refine ms.drop rfl ?_|refine ms.keep zS ?_)|with_reducible apply Α.seq));exact Hid.out k):φ:=h ⟨k⟩
