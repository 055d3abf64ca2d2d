import Derived.Test.YtenbhdilndfaeaaGreatM02
import Derived.Test.YtenbhdilndfaeaaGreatM28
import Derived.Laws.BitsLemmas
import Derived.WalkMore
set_option maxRecDepth 100000
set_option maxHeartbeats 0
set_option linter.all false
namespace Go.Proofs.YtenbhdilndfaeaaGreat
open Go.RowKit Go.Proofs.Tryz
variable{Q:Exit->Act->World->Prop}{a:Act}{C aQ bS:TypeId}{ops:Array Oper}{B:OA}
def Dy{P:Program}{md:Region.Mode}{S:World->Prop}{N:Nat}{l:QZ}(i j:Nat){Np g:Oper}{r1 r2:QZ}{fuel:Nat}{listed:Array Bool}{w:World}(hi:∀e:Act->World->Prop,Shut (∀a w,(i<N->S w)->j1 P md l.toArray Q S N fuel (listed.setIfInBounds i true) a w->e a w)->if Region.wanted Np (yielded l.toArray a.tmps)=true then Oper.wp P Np a w e Q else e (a.put Np.dst undef) w)(hj:∀e:Act->World->Prop,Shut (∀a w,(j<N->S w)->j1 P md l.toArray Q S N fuel (listed.setIfInBounds j true) a w->e a w)->if Region.wanted g (yielded l.toArray a.tmps)=true then Oper.wp P g a w e Q else e (a.put g.dst undef) w)(h1:l.drop i=Np::r1:=by rfl)(h2:l.drop j=g::r2:=by rfl)(hr:Region.ready md l.toArray listed=[i,j]:=by kernel_rfl):j1 P md l.toArray Q S N (fuel+1) listed a w:=by
 exact JN
abbrev zs(l:QR):List Value:=l.map (Value.int .i64)
abbrev Ls(w:World)(A:OA)(l:QR):Prop:=Ns w 2 A l
def Zr(base:Nat)(w:World)(A:OA)(c:Nat)(l:QR):Prop:=w.ownsRow base 2 1 (.slice A l.length c) l.length (zs l)
section
variable{base c:Nat}{w w':World}{A:OA}{l xs news:QR}
def Zr.ls(h:Zr base w A c l):Ls w A l:=Sl.iP h
def Zr.hF(h:Zr base w A c l)(b:J [] w w'):Zr base w' A c l:=iD h b
def Zr.nil:Zr base w none 0 []:=iS _ _ _ _
def w8{l:QR}:∀u∈zs l,u.oneCell'=true:=λu b=>by
 obtain⟨d,_,rfl⟩:=Ge.1 b;rfl
def Ls.one(w:World)(x:Int):Sl (w.alloc (.cells #[Y x] 2)) 2 1 (j_ w.heap.size) 1 (zs [x]):=
 ⟨rfl,λ_=>⟨_,0,#[Y x],_,rfl,P_ w _ _,λd e b=>by simpa using b⟩⟩
def CZ{rest:QZ}{o:Oper}{s x:Operand}{aB m n0:Nat}(ak:Zr base w B aB xs)(hr:Sl w C 1 A m (zs news))(hb:base<=w.heap.size)(hn:xs.length+m<=1000000000)(h:∀(A':OA) (c':Nat) (w':World),Zr base w' A' c' (xs++news)->App base 2 w w'->wpList prog ops Q rest (a.put o.dst (.slice A' (n0+m) c')) w')(Nw:o.guard=none:=by rfl)(ho:o.op=.call {callee:=.builtin .append,args:=#[s,x],argTypes:=#[27,27]}:=by rfl)(hs:a.eval s=.slice B n0 aB:=by rfl)(hx:a.eval x=.slice A m c:=by rfl)(cg:xs.length=n0:=by first|rfl|(simp;done)):
 wpList prog ops Q (o::rest) a w:=by
 obtain⟨bu,bB,bt,a7,a6⟩:=info_parts infoI64;have hm:=by have:=hr.1;simpa using this
 subst cg;refine iL w Nw s x _ ho base 2 bu _ 1 8 underlying27 bB bt a7 a6 rfl I I B xs.length aB (zs xs) hs ak A m c (zs news) hx hr (w8) X hb λA' c' w' h1 h2=>h A' c' w' ?_ h2;unfold Zr;rw[I_,hm,zs,Gd];exact h1
def Ce{o:Oper}{K:Act->World->Prop}{E:Prop}{s x:Operand}{aB m n0:Nat}(ak:Zr base w B aB xs)(hr:Sl w C 1 A m (zs news))(hb:base<=w.heap.size)(hn:xs.length+m<=1000000000)(h:∀(A':OA) (c':Nat) (w':World),Zr base w' A' c' (xs++news)->App base 2 w w'->K (a.put o.dst (.slice A' (n0+m) c')) w')(Nw:o.guard=none:=by rfl)(ho:o.op=.call {callee:=.builtin .append,args:=#[s,x],argTypes:=#[27,27]}:=by rfl)(hs:a.eval s=.slice B n0 aB:=by rfl)(hx:a.eval x=.slice A m c:=by rfl)(cg:xs.length=n0:=by first|rfl|(simp;done)):
 if Region.wanted o (yielded ops a.tmps)=true then Oper.wp prog o a w K Q else E:=by
 obtain⟨bu,bB,bt,a7,a6⟩:=info_parts infoI64;have hm:=by have:=hr.1;simpa using this
 subst cg;refine nA Nw s x _ ho base 2 bu _ 1 8 underlying27 bB bt a7 a6 rfl I I B xs.length aB (zs xs) hs ak A m c (zs news) hx hr (w8) X hb λA' c' w' h1 h2=>h A' c' w' ?_ h2;unfold Zr;rw[I_,hm,zs,Gd];exact h1
end
def pY{q:TypeId}(A:OA)(c:Nat)(l:QR)(n:Int)(w:World)(h:Ns w q A l)(u:l.length<=1000000000):
 Calls prog 18 #[.slice A l.length c,Y n] w λe w'=>e=.returned (.bool (decide (n∈l)))/\w=w':=by
 refine h6 λQ m=>?_;go_enter func18,ntmps18;go_wp2
 go_loop [5] (λg=>∃b:Nat,b<=l.length/\g=Y b/\n∉l.take b) (λg=>l.length-(intOf g).toNat)
 case atStart=>exact⟨0,L_ _,gn,H⟩
 obtain⟨b,t,rfl,j⟩:=hrel;have k:=O j;clear j;by_cases f:b<l.length
 .obtain⟨r,v,o,s⟩:=h.at_ f;subst o;by_cases d:l[b]=n
  .have p:(l[b]==n)=true:=by simp[d]
   have HM:=O (show n∈l from d▸N_ f);clear d;go_wp2;rw[m.out];exact⟨by rw[Gv HM.out],rfl⟩
  have p:(l[b]==n)=false:=by simp[d]
  have HM:=O (show n∉l.take (b+1) by
   rw[Q_ f,W_];rintro(i|i);exact k.out i;exact d (J_.1 i).symm)
  clear d;go_wp2;go_round;exact⟨b+1,X,gn,HM.out⟩;exact mz
 go_wp2;rw[m.out];refine⟨?_,rfl⟩;have d:=by have:=k.out;rwa [F7 X]at this
 rw[G6 d]
def insL(l:QR)(n:Int):List Int:=if n∈l then l else l.takeWhile (λx=>decide (x<n))++[n]++l.dropWhile (λx=>decide (x<n))
def jR(xs:QR)(w:World)(e:Ending)(w':World):Prop:=∃(A:OA) (c:Nat),e=.returned (.slice A xs.length c)/\Ls w' A xs/\xs.length<=c/\J [] w w'
def Ls.drop{w:World}{A:OA}{l:QR}(h:Ls w A l){k:Nat}(r:k<=l.length)(q:Nat)(o:l.length<=q):Sl w 2 1 (if q=k then A else A.map (·.add k)) (l.length-k) (zs (l.drop k)):=by
 refine⟨H,λp=>?_⟩;obtain⟨d,m,e,f,g,i,j⟩:=h.2 X;subst g;rw[T_ X];refine⟨d,m+k,e,f,by simp[m9],i,λs n b=>?_⟩;rw[HE];refine j _ n ?_;rw[GF]at b |-;rw[<-b,H6]
def tx{ts rs:QR}{n:Int}(e:n∉ts++rs)(b:∀x∈ts,x<n)(d:∀x r,rs=x::r->¬x<n):insL (ts++rs) n=(ts++[n])++rs:=by
 unfold insL;rw[T_ e,List.takeWhile_append_of_pos (zu b),List.dropWhile_append_of_pos (zu b)];cases rs with
 |nil=>simp
 |cons x r=>
  have:=d x r rfl;rw[List.takeWhile_cons_of_neg (zu this),List.dropWhile_cons_of_neg (zu this)];simp
def isRef(v:Vl):Bool:=v.r&&(v.n !=0)
def jO(fs:QA):List Int:=(fs.filter isRef).map (·.n)
def jr(h:QQ):List Int:=h.flatMap λo=>jO o.fs
def iQ(h:QQ):List Int:=h.map (·.id)
def kH(l:QR):List Int:=l.foldl insL []
structure Asc(ys:QR)(P:Int->Prop):Prop where
 lt:ys.Pairwise (· < ·)
 mem:∀x,x∈ys↔P x
def lz:∀(xs:QR) {l:QR},xs.Nodup->(∀x∈xs,x∈l)->xs.length<=l.length
 |[],_,_,_=>L_ _
 |x::r,l,b,d=>by
  have e:=d x GM;have k:=lz r (l:=l.erase x) (H4.1 b).2 λg f=>by
   have a:g≠x:=λh=>(H4.1 b).1 (h▸f);exact(List.mem_erase_of_ne a).2 (d g (Gj _ f))
  have i:=List.length_erase_of_mem e;have j:=List.length_pos_of_mem e;simp only[Y_];omega
def p9{p:Int->Bool}:∀(l:QR),∀x∈l.takeWhile p,p x=true
 |[],x,b=>by cases b
 |y::l,x,b=>by
  rw[List.takeWhile_cons]at b;split at b;rename_i d;rcases O_.1 b with rfl|b
  exact d;exact p9 l x b;cases b
def Bh{l:QR}{n:Int}(h:l.Pairwise (· < ·)):Asc (insL l n) (λx=>x∈l∨x=n):=by
 unfold insL;split;rename_i g;exact⟨h,λx=>⟨.inl,λh=>h.elim id (λe=>e▸g)⟩⟩;rename_i g;have e:=List.takeWhile_append_dropWhile (p:=λx=>decide (x<n)) (l:=l);have k:∀x∈l.takeWhile (λx=>decide (x<n)),x<n:=λx b=>by
  have:=p9 _ x b;exact No
 have o:∀x∈l.dropWhile (λx=>decide (x<n)),n<x:=by
  generalize j:l.dropWhile (λx=>decide (x<n))=m at*
  cases m with
  |nil=>intro x b;cases b
  |cons d r=>
   have t:¬d<n:=by
    have f:=List.head?_dropWhile_not (p:=λx=>decide (x<n)) (l:=l);rw[j]at f;simpa using f
   have q:(d::r).Pairwise (· < ·):=by
    rw[<-j];exact h.sublist (List.dropWhile_sublist _)
   have s:n≠d:=λi=>g (by rw[<-e,i];simp);have c:n<d:=X;intro x b;rcases O_.1 b with rfl|b
   exact c;have:=List.rel_of_pairwise_cons q b;omega
 constructor;rw[IA,IA];refine⟨⟨h.sublist (List.takeWhile_sublist _),List.pairwise_singleton _ _,?_⟩,h.sublist (List.dropWhile_sublist _),?_⟩
 .intro a d i f;rw[J_.1 f];exact k a d
 intro a d i f;have f:=o i f;rcases W_.1 d with d|d
 have:=k a d;omega;rw[J_.1 d];exact f;intro x;constructor
 .intro b;rcases W_.1 b with b|b
  rcases W_.1 b with b|b
  .exact .inl (by rw[<-e];exact Gn _ b)
  exact .inr (J_.1 b);exact .inl (by rw[<-e];exact Hn _ b)
 rintro(b|rfl)
 .rw[<-e]at b;rcases W_.1 b with b|b
  exact Gn _ (Gn _ b);exact Hn _ b
 exact Gn _ (Hn _ (J_.2 rfl))
def zF(xs:QR):∀{l:QR},l.Pairwise (· < ·)->Asc (xs.foldl insL l) (λx=>x∈l∨x∈xs):=by
 induction xs with
 |nil=>intro l b;exact⟨b,λx=>by simp⟩
 |cons n xs f=>
  intro l b;have d:=Bh (n:=n) b;have e:=f d.lt;refine⟨e.lt,λx=>?_⟩;rw[HN,e.mem,d.mem,O_];exact or_assoc
def kG(xs:QR):Asc (kH xs) (· ∈xs):=by
 have b:=zF xs (l:=[]) List.Pairwise.nil;exact⟨b.lt,λd=>(b.mem d).trans H⟩
def Asc.nodup{ys:QR}{P:Int->Prop}(h:Asc ys P):ys.Nodup:=h.lt.imp (λh=>Int.ne_of_lt h)
def uw(l:QR)(x:Int):kH (l++[x])=insL (kH l) x:=by simp[kH]
def xB{fs:QA}{b:Nat}(d:b<fs.length):jO (fs.take (b+1))=jO (fs.take b)++(if isRef fs[b]=true then[fs[b].n] else[]):=by
 rw[Q_ d];unfold jO;rw[HH,Gd];split<;>simp_all
def rX(A:OA)(c:Nat)(l:QA)(w:World)(h:vK bS w A l)(s:l.length<=1000000000):
 Calls prog 151 #[.slice A l.length c] w λe w'=>∃(A':OA) (c':Nat),
  e=.returned (.slice A' l.length c')/\Vs w' A' l/\J [] w w':=by
 obtain⟨o,m,n,j,i⟩:=info_parts infoVl;have k:=λg=>Lib.run_eql_slice_nil (P:=prog) g 54 38 A l.length c 0 0 underlying54;rcases A with _|p
 .have h0:l.length=0:=L3;have d:l=[]:=Gh h0;subst d;simp only[Gz]at k |-
  go_enter func151,ntmps151;go_wp2;go_ret;exact⟨none,0,rfl,GU _ _ _ _,F_ _ _⟩
 generalize d:l.length=r at*
 go_enter func151,ntmps151;go_wp2_with (at_builtin;refine iL _ rfl (.tmp 5) (.tmp 6) 54 rfl w.heap.size 38 o _ 2 16 underlying54 m n j i rfl I I _ 0 0 [] rfl (pV _ _ _ _ _ H H) (some p) r c (i5 l) rfl (by subst d;exact Sl.alloc h _) (mI l) X H ?_;intro f c1 t a q;simp only[X_,Gf]at a);go_ret;refine⟨f,c1,oy X,?_,q.gr [] w X ((F_ _ w).alloc _)⟩;subst d;exact Sl.iP a
def xZ(o:Ob)(A:OA)(c:Nat){w:World}(h:vK bS w A o.fs)(j:o.fs.length<=1000000000):
 Calls prog 103 #[.agg #[Y o.id,.slice A o.fs.length c]] w λe w'=>∃(A':OA) (c':Nat),
  e=.returned (.agg #[Y o.id,.slice A' o.fs.length c'])/\Vs w' A' o.fs/\J [] w w':=by
 obtain⟨id,d⟩:=o;simp only at h j |-;obtain⟨i,-,-⟩:=pZ w 56 #[Y id,.slice A d.length c] 56 #[Y 0,n_];obtain⟨v,x⟩:=i.iA;obtain⟨-,k,-⟩:=pZ w 56 #[Y id,.slice A d.length c] 56 #[Y 0,n_]
 go_enter func103,ntmps103;go_wp2_with fail
 go_region_with (go_at_call 151;refine(rX A c d _ ((h.alloc _).alloc _).drew j).mono ?_;rintro e p⟨f,c1,rfl,n,g⟩;have b:=k.drew.gr g H;obtain⟨r,q⟩:=b.iA;have C:=b.hG 0;have u:=b.hG 1;obtain⟨s,t⟩:=(i.drew.gr g H).iA)
 all_goals
  go_wp2;(try simp only[Exit.inBlock,Exit.then]);have m:=(b.hU 0 (Y id)).hU 1 (.slice f d.length c1);refine rr_ #[Y id,.slice f d.length c1] m underlying56 ⟨f,c1,rfl,?_,?_⟩;exact Sl.iq n b I (((F_ [w.heap.size+1] p).setCell (.inl H) _).setCell (.inl H) _);exact(((((F_ [] w).alloc _).alloc _).drew.trans g).setCell (.inr H) _).setCell (.inr H) _
def rW(A:OA)(c:Nat)(l:QT)(id:Int){w:World}(h:sC aQ w A l)(D:l.length<=1000000000):
 Calls prog 102 #[.agg #[.slice A l.length c],Y id] w λe w'=>e=.returned (Y (js (hX l) id))/\J [] w w':=by
 have q:=O (show js (hX l) id=iM (λk:Rw=>k.o.id==id) l 0 by unfold js hX;exact oY _ _ _ _ λ_ _=>rfl);generalize y:l.length=d at*;have p:Bk (w.alloc (.cells #[.slice A d c] 35)) w.heap.size 35 #[.slice A d c]:=P_ w _ _;have x:(w.alloc (.cells #[.slice A d c] 35)).cell? (Z w.heap.size 0)=some (.slice A d c):=p.f_ 0;go_enter func102,ntmps102;go_wp2
 go_step3
 go_wp2
 go_step3
 go_wp2;go_loopw [5,11] (λr j w'=>∃b:Nat,b<=d/\r=Y (-1)/\j=Y b/\js (hX l) id=iM (λk:Rw=>k.o.id==id) (l.drop b) b/\J [] w w') (λ_ j _=>d-(intOf j).toNat)
 case atStart=>exact⟨0,L_ _,rfl,rfl,q.out,(F_ _ _).alloc _⟩
 obtain⟨b,z,rfl,rfl,m,f⟩:=hrel;have g:=O m;clear m;by_cases s:b<d
 .have n:b<l.length:=X;obtain⟨t,E,rfl,u,v⟩:=(h.hF f).at_ n;by_cases i:l[b].o.id=id
  .have a:(l[b].o.id==id)=true:=by simp[i]
   clear i;go_wp2;try rw[Exit.noGoto_ret]
   go_ret;exact⟨kh (by rw[g.out,lA _ _ _ _ X a]),f.alloc _⟩
  have a:(l[b].o.id==id)=false:=by simp[i]
  go_wp2;go_roundw;exact⟨b+1,X,rfl,gn,by rw[g.out,kt _ _ _ _ X a],f.alloc _⟩;exact mz
 go_wp2;try rw[Exit.noGoto_ret]
 go_ret;exact⟨kh (by rw[g.out,l0 _ _ _ _ X]),f⟩
def zz{E:Rw->TypeId}(A:OA)(c:Nat)(l:QT)(id:Int)(w:World)(h:sC aQ w A l)(hr:q0 E w l)(F:l.length<=1000000000):
 Calls prog 60 #[.agg #[.slice A l.length c],Y id] w λe w'=>
  (ke (hX l) id=none/\e=.returned (.tuple #[.agg #[Y 0,n_],.bool false])/\J [] w w')∨
  ∃(o:Ob) (A':OA) (c':Nat),ke (hX l) id=some o/\e=.returned (.tuple #[.agg #[Y o.id,.slice A' o.fs.length c'],.bool true])/\Vs w' A' o.fs/\J [] w w':=by
 have R:Bk (w.alloc (.cells #[.slice A l.length c] 35)) w.heap.size 35 #[.slice A l.length c]:=P_ w _ _;have a:=R.alloc (.cells #[Y 0,n_] 56);obtain⟨-,x,-⟩:=pZ w 35 #[.slice A l.length c] 56 #[Y 0,n_];have h0:=a.f_ 0;rcases m5 (hX l) id with⟨r,g⟩|⟨f,X,r,g⟩
 .go_enter func60,ntmps60;go_wp2_with (go_at_call 102;refine(rW A c l id ((h.alloc _).alloc _) F).mono ?_;rintro e w1⟨rfl,d⟩;have b:=x.gr d H;have q:=a.gr d H;have hx:=q.f_ 0;obtain⟨U,V⟩:=b.iA;have C:=b.hG 0;have W:=b.hG 1);have k:=(b.hU 0 (Y 0)).hU 1 (n_);refine lW #[Y 0,n_] (.bool false) k underlying56 (.inl ⟨g,rfl,?_⟩);exact(((((F_ [] w).alloc _).alloc _).trans d).setCell (.inr H) _).setCell (.inr H) _
 have u:f<l.length:=by simpa[hX]using X
 obtain⟨v,L,rfl,y,z⟩:=h.at_ u;obtain⟨p,s⟩:=hr l[f] (N_ u);have G:(hX l)[f]=l[f].o:=by simp[hX]
 rw[G]at g;clear G;obtain⟨⟨i,j⟩,P⟩:∃o,l[f].o=o:=⟨_,rfl⟩;rw[P]at p s g y z;generalize l[f].A=N at*;generalize l[f].c=S at*;have T:=O r;clear r;have D:=jB (jB y (.cells #[.slice (some (Z v L)) l.length c] 35)) (.cells #[Y 0,n_] 56);have K:=jB (jB z (.cells #[.slice (some (Z v L)) l.length c] 35)) (.cells #[Y 0,n_] 56);simp only at p s D K;go_enter func60,ntmps60;go_wp2_with (first|(go_at_call 102;refine(rW _ c l id ((h.alloc _).alloc _) F).mono ?_;rintro e w1⟨rfl,d⟩;rw[T.out];have q:=a.gr d H;have hx:=q.f_ 0;have bt:=d.f_ D H;have a7:=d.f_ K H)|(go_at_call 103;refine(xZ ⟨i,j⟩ N S (((p.alloc _).alloc _).hF d) s).mono ?_;rintro e w2⟨n,m,rfl,M,t⟩;have b:=x.gr (d.trans t) H;obtain⟨U,V⟩:=b.iA;have C:=b.hG 0;have W:=b.hG 1));have k:=(b.hU 0 (Y i)).hU 1 (.slice n j.length m);refine lW #[Y i,.slice n j.length m] (.bool true) k underlying56 (.inr ⟨⟨i,j⟩,n,m,g,rfl,?_,?_⟩);exact Sl.iq M b I (((F_ [w.heap.size+1] w2).setCell (.inl H) _).setCell (.inl H) _);exact((((((F_ [] w).alloc _).alloc _).trans d).trans t).setCell (.inr H) _).setCell (.inr H) _

def oQ(A B:OA)(c d:Nat)(l k:QR)(w:World)(h:Ls w A l)(M:Ls w B k)(R:l.length<=1000000000)(S:k.length<=1000000000):
 Calls prog 21 #[.slice A l.length c,.slice B k.length d] w λe w'=>e=.returned (.bool (decide (l=k)))/\J [] w w':=by
 refine h6 λQ n=>?_;by_cases iF:l.length=k.length
 .have G:((l.length:Int) !=(k.length:Int))=false:=by simp[iF]
  have v:=O iF;clear iF;go_enter func21,ntmps21;go_wp2;go_loopw [5] (λo wr=>∃b:Nat,b<=l.length/\o=Y b/\Hid (l.take b=k.take b)/\J [] w wr) (λo _=>l.length-(intOf o).toNat)
  case atStart=>exact⟨0,L_ _,gn,O rfl,F_ _ _⟩
  obtain⟨b,P,rfl,p,f⟩:=hrel;by_cases r:b<l.length
  .have a:b<k.length:=ov v.out;obtain⟨z,N,K,x⟩:=h.at_ r;obtain⟨D,y,L,u⟩:=M.at_ a;subst K;subst L;have s:=f.f_ x H;have t:=f.f_ u H;have F:=O (Q_ r);have I:=O (Q_ a);have E:=O (show l[b]≠k[b]->l≠k from λh e=>h (by subst e;rfl));generalize l[b]=j at*;generalize k[b]=m at*;clear x u;go_upto_region 6 with fail;refine hN (λw'=>w'.cell? (Z z (N+b))=some (Y j)/\w'.cell? (Z D (y+b))=some (Y m)) 9 k_ ?_;refine mC ⟨s,t⟩ λC=>?_;(iterate 9 refine j2 C ?_);refine hM k_ ?_ _;replace f:=f.trans (F_ [] wr).drew;clear s t C;by_cases g:j=m
   .have q:(j !=m)=false:=by simp[g]
    have i:=O g;clear g;go_wp2;go_roundw;exact⟨b+1,X,gn,O (by rw[F.out,I.out,p.out,i.out]),f⟩;exact mz
   have q:(j !=m)=true:=by simp[g]
   have i:=O g;clear g;go_wp2;rw[n.out];exact⟨by rw[G6 (E.out i.out)];rfl,f⟩
  go_wp2;rw[n.out];have e:=p.out;rw[F7 X,F7 (ov v.out)]at e;exact⟨by rw[Gv e];rfl,f⟩
 have G:((l.length:Int) !=(k.length:Int))=true:=p_;have i:=O (show l≠k from λe=>iF (by rw[e]));clear iF;go_enter func21,ntmps21;go_wp2;rw[n.out];exact⟨by rw[G6 i.out];rfl,F_ _ _⟩
