import Derived.Test.YtenbhdilndfaeaaGreatM02
import Derived.Test.YtenbhdilndfaeaaGreatM07
import Derived.Laws.BitsLemmas
import Derived.WalkMore
set_option maxRecDepth 100000
set_option maxHeartbeats 0
set_option linter.all false
namespace Go.Proofs.YtenbhdilndfaeaaGreat
open Go.RowKit Go.Proofs.Tryz
variable{G:Prop}{Q:Exit->Act->World->Prop}{a:Act}{aT bU f:TypeId}{ops:Array Oper}{B:OA}{E:Rw->TypeId}
def IE(h:G:=by
 go_upto_region 8 with fail
 have d:=hg.trans (H [] wr).drew;have L:=hz.hF (H [] wr).drew;refine hN (λ_=>True) 9 k_ ?_;obtain⟨W,aW⟩:=nm_ wr.drew;rw[<-aW]at d L |-;clear aW hz hg;have C:=trivial;refine iv 0 C ?_;refine iv 1 C ?_;refine iv 4 C ?_;refine iv 5 C ?_;refine iv 6 C ?_;have dg:=L.hF ((H [] W).alloc (.cells #[Y n] 2));have f:=Ls.one W n
 have cn:w.heap.size<=(W.alloc (.cells #[Y n] 2)).heap.size:=by have:=d.size;simp;omega
 refine hZ 2 λK MY=>?_
 go_simp;refine MY.out _ _ (λ_=>C) ?_;clear MY K
 refine hZ 3 λK MY=>?_
 refine Cd dg f cn X ?_;intro ap ai w2 be G;have M0:=G.gr [] w (H_ _) (d.alloc _)
 refine h4 MY C λ_=>?_
 clear MY K
 refine hZ 7 λK MY=>?_
 refine Cd be (aU.out _ M0) M0.size p_ ?_;intro bg aO ag cZ i;have S:=i.gr [] w (H_ _) M0
 refine h4 MY C λ_=>?_
 clear MY K;refine iv 8 C ?_;refine hM k_ ?_ _;go_wp2
 all_goals
  rw[aq.out];have hi:=E.out;refine⟨bg,aO,?_,by rw[hi];exact cZ.ls,by rw[hi];exact iY cZ,S⟩;rw[hi];simp;omega):G:=h
def KR(h:G:=by
 go_wp2;go_roundw
 case rel=>exact⟨j+1,ys,ap,ai,X,gn,rfl,U (by rw[k.out,C.out,bp.out];simp),a,d,aF⟩
 case measure=>exact mz):G:=h
def B7{P:Program}{md:Region.Mode}{S:World->Prop}{N:Nat}{l:List Oper}(i j:Nat){bt d:Oper}{r1 r2:List Oper}{fuel:Nat}{listed:Array Bool}{w:World}(hi:∀e:Act->World->Prop,Shut (∀a w,(i<N->S w)->jY P md l.toArray Q S N fuel (listed.setIfInBounds i true) a w->e a w)->if Region.wanted bt (yielded l.toArray a.tmps)=true then Oper.wp P bt a w e Q else e (a.put bt.dst undef) w)(hj:∀e:Act->World->Prop,Shut (∀a w,(j<N->S w)->jY P md l.toArray Q S N fuel (listed.setIfInBounds j true) a w->e a w)->if Region.wanted d (yielded l.toArray a.tmps)=true then Oper.wp P d a w e Q else e (a.put d.dst undef) w)(h1:l.drop i=bt::r1:=by rfl)(h2:l.drop j=d::r2:=by rfl)(hr:Region.ready md l.toArray listed=[i,j]:=by kernel_rfl):jY P md l.toArray Q S N (fuel+1) listed a w:=by
 exact Jv
abbrev zs(l:List Int):List Value:=l.map (Value.int .i64)
abbrev Ls(w:World)(A:OA)(l:List Int):Prop:=Ns w 2 A l
def Zr(base:Nat)(w:World)(A:OA)(c:Nat)(l:List Int):Prop:=w.ownsRow base 2 1 (.slice A l.length c) l.length (zs l)
section
variable{base c:Nat}{w w':World}{A:OA}{l xs news:List Int}
def Zr.ls(h:Zr base w A c l):Ls w A l:=Sl.iR h
def Zr.hF(h:Zr base w A c l)(b:I [] w w'):Zr base w' A c l:=iy h b
def Zr.nil:Zr base w none 0 []:=iT _ _ _ _
def zV{l:List Int}:∀u∈zs l,u.oneCell'=true:=λu b=>by
 obtain⟨d,_,rfl⟩:=FQ.1 b
 rfl
def Ls.one(w:World)(x:Int):Sl (w.alloc (.cells #[Y x] 2)) 2 1 (j_ w.heap.size) 1 (zs [x]):=
 ⟨rfl,λ_=>⟨_,0,#[Y x],_,rfl,P_ w _ _,λd e b=>by simpa using b⟩⟩
def BO{rest:List Oper}{o:Oper}{s x:Operand}{aB m n0:Nat}(ak:Zr base w B aB xs)(hr:Sl w f 1 A m (zs news))(hb:base<=w.heap.size)(hn:xs.length+m<=1000000000)(h:∀(A':OA) (c':Nat) (w':World),Zr base w' A' c' (xs++news)->App base 2 w w'->wpList prog ops Q rest (a.put o.dst (.slice A' (n0+m) c')) w')(L:o.guard=none:=by rfl)(ho:o.op=.call {callee:=.builtin .append,args:=#[s,x],argTypes:=#[27,27]}:=by rfl)(hs:a.eval s=.slice B n0 aB:=by rfl)(hx:a.eval x=.slice A m c:=by rfl)(cw:xs.length=n0:=by first|rfl|(simp;done)):
 wpList prog ops Q (o::rest) a w:=by
 obtain⟨bJ,bG,bA,a6,be⟩:=info_parts infoI64
 have hm:=by have:=hr.1;simpa using this
 subst cw
 refine iJ w L s x _ ho base 2 bJ _ 1 8 underlying27 bG bA a6 be rfl O O B xs.length aB (zs xs) hs ak A m c (zs news) hx hr (zV) X hb λA' c' w' h1 h2=>h A' c' w' ?_ h2
 unfold Zr;rw[J_,hm,zs,FV];exact h1
def Cd{o:Oper}{K:Act->World->Prop}{E:Prop}{s x:Operand}{aB m n0:Nat}(ak:Zr base w B aB xs)(hr:Sl w f 1 A m (zs news))(hb:base<=w.heap.size)(hn:xs.length+m<=1000000000)(h:∀(A':OA) (c':Nat) (w':World),Zr base w' A' c' (xs++news)->App base 2 w w'->K (a.put o.dst (.slice A' (n0+m) c')) w')(L:o.guard=none:=by rfl)(ho:o.op=.call {callee:=.builtin .append,args:=#[s,x],argTypes:=#[27,27]}:=by rfl)(hs:a.eval s=.slice B n0 aB:=by rfl)(hx:a.eval x=.slice A m c:=by rfl)(cw:xs.length=n0:=by first|rfl|(simp;done)):
 if Region.wanted o (yielded ops a.tmps)=true then Oper.wp prog o a w K Q else E:=by
 obtain⟨bJ,bG,bA,a6,be⟩:=info_parts infoI64
 have hm:=by have:=hr.1;simpa using this
 subst cw
 refine oo L s x _ ho base 2 bJ _ 1 8 underlying27 bG bA a6 be rfl O O B xs.length aB (zs xs) hs ak A m c (zs news) hx hr (zV) X hb λA' c' w' h1 h2=>h A' c' w' ?_ h2
 unfold Zr;rw[J_,hm,zs,FV];exact h1
end
def zn{m:TypeId}(A:OA)(c:Nat)(l:List Int)(n:Int)(w:World)(h:Ns w m A l)(t:l.length<=1000000000):
 Calls prog 18 #[.slice A l.length c,Y n] w λe w'=>e=.returned (.bool (decide (n∈l)))/\w=w':=by
 refine h5 λQ k=>?_
 go_enter func18,ntmps18
 go_wp2
 go_loop [5] (λi=>∃b:Nat,b<=l.length/\i=Y b/\n∉l.take b) (λi=>l.length-(intOf i).toNat)
 case atStart=>exact⟨0,N_ _,gn,J⟩
 case round=>
  obtain⟨b,s,rfl,G⟩:=hrel;have E:=U G;clear G
  by_cases g:b<l.length
  .obtain⟨q,u,o,r⟩:=h.at_ g;subst o
   by_cases d:l[b]=n
   .have p:(l[b]==n)=true:=by simp[d]
    have HM:=U (show n∈l from d▸O_ g);clear d;go_wp2;rw[k.out];exact⟨by rw[Gd HM.out],rfl⟩
   .have p:(l[b]==n)=false:=by simp[d]
    have HM:=U (show n∉l.take (b+1) by
     rw[T_ g,X_];rintro(j|j)
     .exact E.out j
     .exact d (I_.1 j).symm)
    clear d;go_wp2;go_round
    case rel=>exact⟨b+1,X,gn,HM.out⟩
    case measure=>exact mz
  .go_wp2;rw[k.out];refine⟨?_,rfl⟩
   have d:=by have:=E.out;rwa [FP X]at this
   rw[GX d]
def insL(l:List Int)(n:Int):List Int:=if n∈l then l else l.takeWhile (λx=>decide (x<n))++[n]++l.dropWhile (λx=>decide (x<n))
def lz(xs:List Int)(w:World)(e:Ending)(w':World):Prop:=∃(A:OA) (c:Nat),e=.returned (.slice A xs.length c)/\Ls w' A xs/\xs.length<=c/\I [] w w'
def Ls.drop{w:World}{A:OA}{l:List Int}(h:Ls w A l){k:Nat}(s:k<=l.length)(q:Nat)(p:l.length<=q):Sl w 2 1 (if q=k then A else A.map (·.add k)) (l.length-k) (zs (l.drop k)):=by
 refine⟨J,λr=>?_⟩;obtain⟨d,n,e,g,i,j,m⟩:=h.2 X;subst i;rw[R_ X];refine⟨d,n+k,e,g,by simp[nS],j,λt o b=>?_⟩;rw[Hl];refine m _ o ?_;rw[Gf]at b |-;rw[<-b,HE]
def tp{ts rs:List Int}{n:Int}(e:n∉ts++rs)(b:∀x∈ts,x<n)(d:∀x r,rs=x::r->¬x<n):insL (ts++rs) n=(ts++[n])++rs:=by
 unfold insL;rw[R_ e,List.takeWhile_append_of_pos (zu b),List.dropWhile_append_of_pos (zu b)]
 cases rs with
 |nil=>simp
 |cons x r=>
  have:=d x r rfl
  rw[List.takeWhile_cons_of_neg (zu this),List.dropWhile_cons_of_neg (zu this)];simp
def ins_any(A:OA)(c:Nat)(l:List Int)(n:Int)(w:World)(h:Ls w A l)(hl:l.length<=100000000)(z:l.length<=c):
 Calls prog 65 #[.slice A l.length c,Y n] w (lz (insL l n) w):=by
 refine h5 λQ aq=>?_
 have m:=zn A c l n w h X
 cases k:decide (n∈l)with
 |true=>
  rw[k]at m;have t:=U m;have b:=U (show insL l n=l by unfold insL;rw[U_ (zu k)]);clear m k
  go_enter func65,ntmps65
  go_wp2_with (go_at_call 18;refine t.out.mono ?_;rintro e w'⟨rfl,rfl⟩)
  rw[aq.out];unfold lz;rw[b.out];exact⟨A,c,rfl,h,z,H _ _⟩
 |false=>
  rw[k]at m;have t:=U m;have O:=U (show n∉l by simpa using k);clear m k
  go_enter func65,ntmps65
  go_wp2_with (go_at_call 18;refine t.out.mono ?_;rintro e w'⟨rfl,rfl⟩)
  go_loopw [5,6] (λov v wr=>∃(b j:List Int) (s:OA) (y:Nat),Hid (l=b++j)/\Hid (∀g∈b,g<n)/\ov=.slice s b.length y/\v=Y b.length/\Zr w.heap.size wr s y b/\I [] w wr) (λ_ v _=>l.length-(intOf v).toNat)
  case atStart=>exact⟨[],l,none,0,U rfl,U J,rfl,gn,Zr.nil,H _ _⟩
  case round=>
   obtain⟨b,j,s,y,r,x,rfl,rfl,hz,hg⟩:=hrel;have aE:=hg.size
   have ad:b.length<=l.length:=by rw[r.out];simp
   by_cases o:b.length<l.length
   .obtain⟨T,off,hA,V⟩:=h.at_ o;subst hA;have MU:=hg.f_ V J;clear V;obtain⟨g,D⟩:=nm_ (l[b.length]);rw[<-D]at MU;have N:=U D;clear D
    by_cases R:g<n
    .have dg:=hz.hF ((H [] wr).alloc (.cells #[Y g] 2));have f:=Ls.one wr g;have cn:w.heap.size<=(wr.alloc (.cells #[Y g] 2)).heap.size:=p_
     go_wp2_with (at_builtin;refine BO dg f cn X ?_;intro ap ai w2 be G)
     go_roundw
     case rel=>
      have b6:l=(b++[g])++j.tail:=by
       rw[N.out];have e:=r.out
       cases P:j with
       |nil=>rw[P]at e;rw[e]at o;simp at o
       |cons M ae=>rw[P]at e;subst e;simp
      exact⟨b++[g],j.tail,ap,ai,U b6,U (λaj hz=>by
       rcases X_.1 hz with hz|hz
       .exact x.out aj hz
       .rw[I_.1 hz]
        exact R),J,J,be,G.gr [] w (H_ _) (hg.alloc _)⟩
     case measure=>exact mz
    .have aU:Hid (∀w',I [] w w'->Sl w' 2 1 (if c=b.length then some (Z T off) else some (Z T (off+b.length))) (l.length-b.length) (zs (l.drop b.length))):=U (λw' hg=>by
      have:=Ls.drop (w:=w') (Sl.hF h hg) ad c z
      simpa[nS]using this)
     have E:Hid (insL l n=(b++[n])++l.drop b.length):=U (by
      have e:=r.out;have p:=O.out;rw[e]at p
      have u:l.drop b.length=j:=by rw[e];simp
      rw[u]
      conv=>lhs;rw[e]
      exact tp p x.out (λM ae F=>by
       have P:l[b.length]=M:=by simp only[e,F];simp
       rw[<-P,<-N.out]
       exact R))
     exact IE
   .have aU:=U (λw' hg=>Ls.drop (w:=w') (Sl.hF h hg) ad c z)
    have E:Hid (insL l n=(b++[n])++l.drop b.length):=U (by
     have e:=r.out;have p:=O.out;rw[e]at p
     have u:l.drop b.length=j:=by rw[e];simp
     rw[u]
     conv=>lhs;rw[e]
     exact tp p x.out (λM ae F=>by
      rw[e,F]at o
      simp at o))
    exact IE
def isRef(v:Vl):Bool:=v.r&&(v.n !=0)
def lZ(fs:List Vl):List Int:=(fs.filter isRef).map (·.n)
def kd(h:List Ob):List Int:=h.flatMap λo=>lZ o.fs
def iF(h:List Ob):List Int:=h.map (·.id)
def mR(l:List Int):List Int:=l.foldl insL []
structure Asc(ys:List Int)(P:Int->Prop):Prop where
 lt:ys.Pairwise (· < ·)
 mem:∀x,x∈ys↔P x
def ES(l:List Int):Prop:=∀xs:List Int,xs.Nodup->(∀x∈xs,x∈l)->xs.length<=50000000
def oz:∀(xs:List Int) {l:List Int},xs.Nodup->(∀x∈xs,x∈l)->xs.length<=l.length
 |[],_,_,_=>N_ _
 |x::r,l,b,d=>by
  have e:=d x Gi
  have m:=oz r (l:=l.erase x) (HQ.1 b).2 λh g=>by
   have a:h≠x:=λi=>(HQ.1 b).1 (i▸g)
   exact(List.mem_erase_of_ne a).2 (d h (FX _ g))
  have j:=List.length_erase_of_mem e;have k:=List.length_pos_of_mem e;simp only[FK];omega
def p5{p:Int->Bool}:∀(l:List Int),∀x∈l.takeWhile p,p x=true
 |[],x,b=>by cases b
 |y::l,x,b=>by
  rw[List.takeWhile_cons]at b;split at b
  .rename_i d
   rcases M_.1 b with rfl|b
   .exact d
   .exact p5 l x b
  .cases b
def Bc{l:List Int}{n:Int}(h:l.Pairwise (· < ·)):Asc (insL l n) (λx=>x∈l∨x=n):=by
 unfold insL;split
 .rename_i i;exact⟨h,λx=>⟨.inl,λh=>h.elim id (λe=>e▸i)⟩⟩
 .rename_i i;have e:=List.takeWhile_append_dropWhile (p:=λx=>decide (x<n)) (l:=l)
  have m:∀x∈l.takeWhile (λx=>decide (x<n)),x<n:=λx b=>by
   have:=p5 _ x b
   exact MR
  have q:∀x∈l.dropWhile (λx=>decide (x<n)),n<x:=by
   generalize k:l.dropWhile (λx=>decide (x<n))=o at*
   cases o with
   |nil=>intro x b;cases b
   |cons d s=>
    have u:¬d<n:=by
     have g:=List.head?_dropWhile_not (p:=λx=>decide (x<n)) (l:=l);rw[k]at g
     simpa using g
    have r:(d::s).Pairwise (· < ·):=by
     rw[<-k];exact h.sublist (List.dropWhile_sublist _)
    have t:n≠d:=λj=>i (by rw[<-e,j];simp)
    have c:n<d:=X;intro x b
    rcases M_.1 b with rfl|b
    .exact c
    .have:=List.rel_of_pairwise_cons r b
     omega
  constructor
  .rw[HO,HO];refine⟨⟨h.sublist (List.takeWhile_sublist _),List.pairwise_singleton _ _,?_⟩,h.sublist (List.dropWhile_sublist _),?_⟩
   .intro a d j g;rw[I_.1 g];exact m a d
   .intro a d j g;have g:=q j g
    rcases X_.1 d with d|d
    .have:=m a d
     omega
    .rw[I_.1 d];exact g
  .intro x;constructor
   .intro b
    rcases X_.1 b with b|b
    .rcases X_.1 b with b|b
     .exact .inl (by rw[<-e];exact F9 _ b)
     .exact .inr (I_.1 b)
    .exact .inl (by rw[<-e];exact Hc _ b)
   .rintro(b|rfl)
    .rw[<-e]at b
     rcases X_.1 b with b|b
     .exact F9 _ (F9 _ b)
     .exact Hc _ b
    .exact F9 _ (Hc _ (I_.2 rfl))
def zt(xs:List Int):∀{l:List Int},l.Pairwise (· < ·)->Asc (xs.foldl insL l) (λx=>x∈l∨x∈xs):=by
 induction xs with
 |nil=>intro l b;exact⟨b,λx=>by simp⟩
 |cons n xs g=>
  intro l b;have d:=Bc (n:=n) b;have e:=g d.lt;refine⟨e.lt,λx=>?_⟩;rw[Hf,e.mem,d.mem,M_];exact or_assoc
def ll(xs:List Int):Asc (mR xs) (· ∈xs):=by
 have b:=zt xs (l:=[]) List.Pairwise.nil;exact⟨b.lt,λd=>(b.mem d).trans J⟩
def Asc.nodup{ys:List Int}{P:Int->Prop}(h:Asc ys P):ys.Nodup:=h.lt.imp (λh=>Int.ne_of_lt h)
def vB{l xs:List Int}(h:ES l)(b:∀x∈xs,x∈l):(mR xs).length<=50000000:=
 h _ (ll xs).nodup λx d=>b x (((ll xs).mem x).1 d)
def yV(l:List Int)(x:Int):mR (l++[x])=insL (mR l) x:=by simp[mR]
def xe{fs:List Vl}{b:Nat}(d:b<fs.length):lZ (fs.take (b+1))=lZ (fs.take b)++(if isRef fs[b]=true then[fs[b].n] else[]):=by
 rw[T_ d];unfold lZ;rw[Hd,FV];split<;>simp_all
def xh{h:List Ob}{i:Nat}(b:i<h.length):kd (h.take (i+1))=kd (h.take i)++lZ h[i].fs:=by
 rw[T_ b];unfold kd;rw[F8];simp
def rV(A:OA)(c:Nat)(l:List Vl)(w:World)(h:xS bU w A l)(t:l.length<=1000000000):
 Calls prog 151 #[.slice A l.length c] w λe w'=>∃(A':OA) (c':Nat),
  e=.returned (.slice A' l.length c')/\Vs w' A' l/\I [] w w':=by
 obtain⟨o,n,m,j,p⟩:=info_parts infoVl
 have k:=λi=>Lib.run_eql_slice_nil (P:=prog) i 54 38 A l.length c 0 0 underlying54
 rcases A with _|r
 .have h0:l.length=0:=LB;have d:l=[]:=FZ h0;subst d;simp only[F7]at k |-
  go_enter func151,ntmps151
  go_wp2;go_ret;exact⟨none,0,rfl,Gw _ _ _ _,H _ _⟩
 .generalize d:l.length=s at*
  go_enter func151,ntmps151
  go_wp2_with (at_builtin;refine iJ _ rfl (.tmp 5) (.tmp 6) 54 rfl w.heap.size 38 o _ 2 16 underlying54 n m j p rfl O O _ 0 0 [] rfl (uw _ _ _ _ _ J J) (some r) s c (iO l) rfl (by subst d;exact Sl.alloc h _) (nD l) X J ?_;intro g q u a f;simp only[W_,FY]at a)
  go_ret;refine⟨g,q,ot X,?_,f.gr [] w X ((H _ w).alloc _)⟩;subst d;exact Sl.iR a
def xL(o:Ob)(A:OA)(c:Nat){w:World}(h:xS bU w A o.fs)(m:o.fs.length<=1000000000):
 Calls prog 103 #[.agg #[Y o.id,.slice A o.fs.length c]] w λe w'=>∃(A':OA) (c':Nat),
  e=.returned (.agg #[Y o.id,.slice A' o.fs.length c'])/\Vs w' A' o.fs/\I [] w w':=by
 obtain⟨id,b⟩:=o;simp only at h m |-;obtain⟨k,-,-⟩:=pZ w 56 #[Y id,.slice A b.length c] 56 #[Y 0,n_];obtain⟨z,C⟩:=k.iC;obtain⟨-,n,-⟩:=pZ w 56 #[Y id,.slice A b.length c] 56 #[Y 0,n_]
 go_enter func103,ntmps103
 go_wp2_with fail
 go_region_with (go_at_call 151;refine(rV A c b _ ((h.alloc _).alloc _).drew m).mono ?_;rintro e r⟨g,i,rfl,q,j⟩;have d:=n.drew.gr j J;obtain⟨v,y⟩:=d.iC;have t:=d.hG 0;have s:=d.hG 1;obtain⟨u,x⟩:=(k.drew.gr j J).iC)
 all_goals
  go_wp2
  (try simp only[Exit.inBlock,Exit.then])
  have p:=(d.hV 0 (Y id)).hV 1 (.slice g b.length i);refine rr_ #[Y id,.slice g b.length i] p underlying56 ⟨g,i,rfl,?_,?_⟩
  .exact Sl.it q d O (((H [w.heap.size+1] r).setCell (.inl J) _).setCell (.inl J) _)
  .exact(((((H [] w).alloc _).alloc _).drew.trans j).setCell (.inr J) _).setCell (.inr J) _
def rU(A:OA)(c:Nat)(l:List Rw)(id:Int){w:World}(h:sC aT w A l)(y:l.length<=1000000000):
 Calls prog 102 #[.agg #[.slice A l.length c],Y id] w λe w'=>e=.returned (Y (jr (hX l) id))/\I [] w w':=by
 have p:=U (show jr (hX l) id=iE (λk:Rw=>k.o.id==id) l 0 by unfold jr hX;exact oW _ _ _ _ λ_ _=>rfl);generalize v:l.length=d at*;have n:Bk (w.alloc (.cells #[.slice A d c] 35)) w.heap.size 35 #[.slice A d c]:=P_ w _ _;have u:(w.alloc (.cells #[.slice A d c] 35)).cell? (Z w.heap.size 0)=some (.slice A d c):=n.f_ 0
 go_enter func102,ntmps102
 go_wp2
 go_step3
 go_wp2
 go_step3
 go_wp2
 go_loopw [5,11] (λf j w'=>∃b:Nat,b<=d/\f=Y (-1)/\j=Y b/\jr (hX l) id=iE (λk:Rw=>k.o.id==id) (l.drop b) b/\I [] w w') (λ_ j _=>d-(intOf j).toNat)
 case atStart=>exact⟨0,N_ _,rfl,rfl,p.out,(H _ _).alloc _⟩
 case round=>
  obtain⟨b,x,rfl,rfl,G,g⟩:=hrel;have E:=U G;clear G
  by_cases q:b<d
  .have m:b<l.length:=X;obtain⟨r,z,rfl,s,t⟩:=(h.hF g).at_ m
   by_cases i:l[b].o.id=id
   .have a:(l[b].o.id==id)=true:=by simp[i]
    clear i;go_wp2
    try rw[Exit.noGoto_ret]
    go_ret;exact⟨jZ (by rw[E.out,k2 _ _ _ _ X a]),g.alloc _⟩
   .have a:(l[b].o.id==id)=false:=by simp[i]
    go_wp2;go_roundw
    case rel=>exact⟨b+1,X,rfl,gn,by rw[E.out,ka _ _ _ _ X a],g.alloc _⟩
    case measure=>exact mz
  .go_wp2
   try rw[Exit.noGoto_ret]
   go_ret;exact⟨jZ (by rw[E.out,lu _ _ _ _ X]),g⟩
def zl(A:OA)(c:Nat)(l:List Rw)(id:Int)(w:World)(h:sC aT w A l)(hr:qs E w l)(F:l.length<=1000000000):
 Calls prog 60 #[.agg #[.slice A l.length c],Y id] w λe w'=>
  (jl (hX l) id=none/\e=.returned (.tuple #[.agg #[Y 0,n_],.bool false])/\I [] w w')∨
  ∃(o:Ob) (A':OA) (c':Nat),jl (hX l) id=some o/\e=.returned (.tuple #[.agg #[Y o.id,.slice A' o.fs.length c'],.bool true])/\Vs w' A' o.fs/\I [] w w':=by
 have V:Bk (w.alloc (.cells #[.slice A l.length c] 35)) w.heap.size 35 #[.slice A l.length c]:=P_ w _ _;have a:=V.alloc (.cells #[Y 0,n_] 56);obtain⟨-,y,-⟩:=pZ w 35 #[.slice A l.length c] 56 #[Y 0,n_];have h0:=a.f_ 0
 rcases mr (hX l) id with⟨s,i⟩|⟨g,hk,s,i⟩
 .go_enter func60,ntmps60
  go_wp2_with (go_at_call 102;refine(rU A c l id ((h.alloc _).alloc _) F).mono ?_;rintro e w1⟨rfl,b⟩;have d:=y.gr b J;have r:=a.gr b J;have hx:=r.f_ 0;obtain⟨X,co⟩:=d.iC;have P:=d.hG 0;have M:=d.hG 1)
  have p:=(d.hV 0 (Y 0)).hV 1 (n_);refine lO #[Y 0,n_] (.bool false) p underlying56 (.inl ⟨i,rfl,?_⟩);exact(((((H [] w).alloc _).alloc _).trans b).setCell (.inr J) _).setCell (.inr J) _
 .have v:g<l.length:=by simpa[hX]using hk
  obtain⟨x,L,rfl,z,C⟩:=h.at_ v;obtain⟨q,t⟩:=hr l[g] (O_ v)
  have K:(hX l)[g]=l[g].o:=by simp[hX]
  rw[K]at i;clear K;obtain⟨⟨j,k⟩,W⟩:∃o,l[g].o=o:=⟨_,rfl⟩;rw[W]at q t i z C;generalize l[g].A=N at*;generalize l[g].c=R at*;have S:=U s;clear s;have f:=jC (jC z (.cells #[.slice (some (Z x L)) l.length c] 35)) (.cells #[Y 0,n_] 56);have D:=jC (jC C (.cells #[.slice (some (Z x L)) l.length c] 35)) (.cells #[Y 0,n_] 56);simp only at q t f D
  go_enter func60,ntmps60
  go_wp2_with (first|(go_at_call 102;refine(rU _ c l id ((h.alloc _).alloc _) F).mono ?_;rintro e w1⟨rfl,b⟩;rw[S.out];have r:=a.gr b J;have hx:=r.f_ 0;have bA:=b.f_ f J;have a6:=b.f_ D J)|(go_at_call 103;refine(xL ⟨j,k⟩ N R (((q.alloc _).alloc _).hF b) t).mono ?_;rintro e w2⟨n,m,rfl,T,u⟩;have d:=y.gr (b.trans u) J;obtain⟨X,co⟩:=d.iC;have P:=d.hG 0;have M:=d.hG 1))
  have p:=(d.hV 0 (Y j)).hV 1 (.slice n k.length m);refine lO #[Y j,.slice n k.length m] (.bool true) p underlying56 (.inr ⟨⟨j,k⟩,n,m,i,rfl,?_,?_⟩)
  .exact Sl.it T d O (((H [w.heap.size+1] w2).setCell (.inl J) _).setCell (.inl J) _)
  .exact((((((H [] w).alloc _).alloc _).trans b).trans u).setCell (.inr J) _).setCell (.inr J) _
def xj(D:OA)(hc:Nat)(l:List Rw)(w:World)(av:sC aT w D l)(hR:qs E w l)(hn:l.length<=100000000)(S:ES (kd (hX l))):
 Calls prog 23 #[.agg #[.slice D l.length hc]] w (lz (mR (kd (hX l))) w):=by
 refine h5 λQ aq=>?_
 obtain⟨L,ad,aW,hg,s,R⟩:=box1 w 35 #[.slice D l.length hc];have aj:=U S;clear S
 go_enter func23,ntmps23
 go_wp2
 go_loopw [3,4] (λov i wr=>∃(g:Nat) (xs:List Int) (A:OA) (c:Nat),g<=l.length/\i=Y g/\ov=.slice A xs.length c/\Hid (xs=mR (kd ((hX l).take g)))/\Ls wr A xs/\xs.length<=c/\I [] L wr) (λ_ i _=>l.length-(intOf i).toNat)
 case atStart=>exact⟨0,[],none,0,N_ _,gn,rfl,U rfl,Gw _ _ _ _,H_ _,H _ _⟩
 case round=>
  obtain⟨g,xs,A,c,hi,rfl,rfl,K,v,z,r⟩:=hrel;have F:=(R.hF r).f_ 0
  by_cases x:g<l.length
  .obtain⟨al,off,M,bj,P⟩:=av.at_ x;have Z:=U M;subst M;clear Z;have V:=O_ x;obtain⟨n,bD⟩:=hR _ V
   have N:=U (show kd ((hX l).take (g+1))=kd ((hX l).take g)++lZ l[g].o.fs by
    have aL:g<(hX l).length:=by rw[h7];exact x
    rw[xh aL]
    simp[hX])
   have bu:=U (show ∀u∈kd ((hX l).take (g+1)),u∈kd (hX l) from λu e=>by
    unfold kd at e |-;obtain⟨o,ho,e⟩:=G3.1 e
    exact G3.2 ⟨o,Gp ho,e⟩)
   clear V;generalize l[g]=p at*;have y:=(s.trans r).f_ P J
   go_wp2_with fail
   go_loopw [3,5] (λov i W=>∃(j:Nat) (ys:List Int) (ap:OA) (ai:Nat),j<=p.o.fs.length/\i=Y j/\ov=.slice ap ys.length ai/\Hid (ys=mR (kd ((hX l).take g)++lZ (p.o.fs.take j)))/\Ls W ap ys/\ys.length<=ai/\I [] L W) (λ_ i _=>p.o.fs.length-(intOf i).toNat)
   case atStart=>exact⟨0,xs,A,c,N_ _,gn,rfl,U (by rw[K.out];simp[lZ]),v,z,r⟩
   case round=>
    clear v z r F y;obtain⟨j,ys,ap,ai,hj,rfl,rfl,k,f,d,m⟩:=hrel;have F:=(R.hF m).f_ 0;have y:=(s.trans m).f_ P J
    by_cases O:j<p.o.fs.length
    .obtain⟨b2,ak,B,t,br⟩:=n.at_ O;have C:=U (xe O)
     have bl:=U (show ys.length<=50000000 by
      rw[k.out]
      refine vB aj.out λu e=>bu.out u ?_
      rw[N.out]
      rcases X_.1 e with e|e
      .exact F9 _ e
      .refine Hc _ ?_;unfold lZ at e |-;obtain⟨b,n,rfl⟩:=FQ.1 e;have n:=GY.1 n
       exact FQ.2 ⟨b,GY.2 ⟨Gp n.1,n.2⟩,rfl⟩)
     generalize p.o.fs[j]=b at*;have T:=(s.trans m).f_ t J;have p1:=(s.trans m).f_ br J;rw[B]at y;have aF:=m.alloc (.cells #[.bool b.r,Y b.n] 38);have a:=Sl.hF f ((H [] wr).alloc (.cells #[.bool b.r,Y b.n] 38))
     cases h:b.r with
    |false=>
     rw[h]at T a aF;have bp:=U (show isRef b=false by unfold isRef;rw[h];rfl);clear h;exact KR
    |true=>
     rw[h]at T a aF
     by_cases t:b.n=0
     .have q:(b.n !=0)=false:=by simp[t]
      have bp:=U (show isRef b=false by unfold isRef;rw[q,Bool.and_false]);clear h t;exact KR
     .have q:(b.n !=0)=true:=by simp[t]
      have bp:=U (show isRef b=true by unfold isRef;rw[h,q];rfl);clear h t
      go_wp2_with (go_at_call 65;refine(ins_any ap ai ys b.n (wr.alloc (.cells #[.bool true,Y b.n] 38)) a (ov bl.out) d).mono ?_;unfold lz;rintro am ag⟨bg,aO,rfl,an,bQ,ao⟩)
      go_roundw
      case rel=>exact⟨j+1,insL ys b.n,bg,aO,X,gn,rfl,U (by rw[C.out,bp.out,U_ rfl,<-Gc,yV,<-k.out]),an,bQ,aF.trans ao⟩
      case measure=>exact mz
    .go_wp2;go_roundw
     case rel=>exact⟨g+1,ys,ap,ai,X,gn,rfl,U (by rw[N.out,k.out,FP (l:=p.o.fs) X]),f,d,m⟩
     case measure=>exact mz
  .go_wp2;rw[aq.out];have e:=K.out;rw[FP (by rw[h7];omega)]at e;rw[<-e];exact⟨A,c,rfl,v,z,s.trans r⟩

