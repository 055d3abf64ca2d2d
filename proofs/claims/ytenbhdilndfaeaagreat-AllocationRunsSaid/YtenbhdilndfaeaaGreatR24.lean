import Derived.Test.YtenbhdilndfaeaaGreatR13
import Derived.Test.YtenbhdilndfaeaaGreatR23
import Derived.Laws.BitsLemmas
import Derived.WalkMore
set_option maxRecDepth 100000
set_option maxHeartbeats 0
set_option linter.all false
namespace Go.Proofs.YtenbhdilndfaeaaGreat
open Go.RowKit Go.Proofs.Tryz
variable{h:List Ob}{i:Nat}{cf e0:TypeId}(xs:List Int)
abbrev zs(l:List Int):List Value:=l.map (Value.int .i64)
abbrev Ls(w:World)(A:OA)(l:List Int):Prop:=Ns w 2 A l
def Zr(base:Nat)(w:World)(A:OA)(c:Nat)(l:List Int):Prop:=w.ownsRow base 2 1 (.slice A l.length c) l.length (zs l)
section
variable{base c:Nat}{w w':World}{A:OA}{l xs news:List Int}
def Zr.ls(h:Zr base w A c l):Ls w A l:=Sl.iQ h
def Zr.g_(h:Zr base w A c l)(a:J [] w w'):Zr base w' A c l:=iF h a
def Zr.nil:Zr base w none 0 []:=iY _ _ _ _
def Ls.one(w:World)(x:Int):Sl (w.alloc (.cells #[Y x] 2)) 2 1 (j_ w.heap.size) 1 (zs [x]):=
 ⟨rfl,λ_=>⟨_,0,#[Y x],_,rfl,Q_ w _ _,λb d a=>by simpa using a⟩⟩
end
def zN{tb:TypeId}(A:OA)(c:Nat)(l:List Int)(n:Int)(w:World)(h:Ns w tb A l)(v:l.length<=1000000000):
 Calls prog 18 #[.slice A l.length c,Y n] w λe w'=>e=.returned (.bool (decide (n∈l)))/\w=w':=by
 refine ig λr o=>?_
 go_enter func18,ntmps18
 go_wp2
 go_loop [5] (λd=>∃a:Nat,a<=l.length/\d=Y a/\n∉l.take a) (λd=>l.length-(intOf d).toNat)
 case atStart=>exact⟨0,P_ _,gn,s_⟩
 case round=>
  obtain⟨a,u,rfl,m⟩:=hrel;have k:=O m;clear m
  by_cases f:a<l.length
  .obtain⟨s,x,p,t⟩:=h.at_ f;subst p
   by_cases b:l[a]=n
   .have q:(l[a]==n)=true:=by simp[b]
    have g:=O (show n∈l from b▸M_ f);clear b;go_wp2;rw[o.out];exact⟨by rw[FX g.out],rfl⟩
   .have q:(l[a]==n)=false:=by simp[b]
    have g:=O (show n∉l.take (a+1) by
     rw[X_ f,T_];rintro(j|j)
     .exact k.out j
     .exact b (R_.1 j).symm)
    clear b;go_wp2;go_round
    case rel=>exact⟨a+1,X,gn,g.out⟩
    case measure=>exact mz
  .go_wp2;rw[o.out];refine⟨?_,rfl⟩
   have b:=by have:=k.out;rwa [FK X]at this
   rw[GH b]
def insL(l:List Int)(n:Int):List Int:=if n∈l then l else l.takeWhile (λx=>decide (x<n))++[n]++l.dropWhile (λx=>decide (x<n))
def om(xs:List Int)(w:World)(e:Ending)(w':World):Prop:=∃(A:OA) (c:Nat),e=.returned (.slice A xs.length c)/\Ls w' A xs/\xs.length<=c/\J [] w w'
def Ls.drop{w:World}{A:OA}{l:List Int}(h:Ls w A l){k:Nat}(p:k<=l.length)(q:Nat)(V:l.length<=q):Sl w 2 1 (if q=k then A else A.map (·.add k)) (l.length-k) (zs (l.drop k)):=by
 refine⟨s_,λo=>?_⟩;obtain⟨d,m,e,f,b,g,j⟩:=h.2 X;subst b;rw[I_ X];refine⟨d,m+k,e,f,by simp[oP],g,λr n a=>?_⟩;rw[Ho];refine j _ n ?_;rw[F4]at a |-;rw[<-a,Hv]
def isRef(v:Vl):Bool:=v.r&&(v.n !=0)
def pM(fs:List Vl):List Int:=(fs.filter isRef).map (·.n)
def kc(h:List Ob):List Int:=h.flatMap λo=>pM o.fs
def hQ(h:List Ob):List Int:=h.map (·.id)
def oC(l:List Int):List Int:=l.foldl insL []
structure Asc(ys:List Int)(P:Int->Prop):Prop where
 lt:ys.Pairwise (· < ·)
 mem:∀x,x∈ys↔P x
def B0(l:List Int):Prop:=∀xs:List Int,xs.Nodup->(∀x∈xs,x∈l)->xs.length<=50000000
def pU:∀(xs:List Int) {l:List Int},xs.Nodup->(∀x∈xs,x∈l)->xs.length<=l.length
 |[],_,_,_=>P_ _
 |x::r,l,a,b=>by
  have d:=b x F9
  have n:=pU r (l:=l.erase x) (G6.1 a).2 λf e=>by
   have g:f≠x:=λj=>(G6.1 a).1 (j▸e)
   exact(List.mem_erase_of_ne g).2 (b f (FQ _ e))
  have k:=List.length_erase_of_mem d;have m:=List.length_pos_of_mem d;simp only[FJ];omega
def qy{p:Int->Bool}:∀(l:List Int),∀x∈l.takeWhile p,p x=true
 |[],x,a=>by cases a
 |y::l,x,a=>by
  rw[List.takeWhile_cons]at a;split at a
  .rename_i b
   rcases N_.1 a with rfl|a
   .exact b
   .exact qy l x a
  .cases a
def B0.of_le{l:List Int}(h:l.length<=50000000):B0 l:=λxs a b=>by
 have:=pU xs a b
 omega
def Bz{l:List Int}{n:Int}(h:l.Pairwise (· < ·)):Asc (insL l n) (λx=>x∈l∨x=n):=by
 unfold insL;split
 .rename_i g;exact⟨h,λx=>⟨.inl,λh=>h.elim id (λd=>d▸g)⟩⟩
 .rename_i g;have d:=List.takeWhile_append_dropWhile (p:=λx=>decide (x<n)) (l:=l)
  have j:∀x∈l.takeWhile (λx=>decide (x<n)),x<n:=λx a=>by
   have:=qy _ x a
   exact ML
  have q:∀x∈l.dropWhile (λx=>decide (x<n)),n<x:=by
   generalize m:l.dropWhile (λx=>decide (x<n))=o at*
   cases o with
   |nil=>intro x a;cases a
   |cons b r=>
    have t:¬b<n:=by
     have e:=List.head?_dropWhile_not (p:=λx=>decide (x<n)) (l:=l);rw[m]at e
     simpa using e
    have k:(b::r).Pairwise (· < ·):=by
     rw[<-m];exact h.sublist (List.dropWhile_sublist _)
    have s:n≠b:=λf=>g (by rw[<-d,f];simp)
    have c:n<b:=X;intro x a
    rcases N_.1 a with rfl|a
    .exact c
    .have:=List.rel_of_pairwise_cons k a
     omega
  constructor
  .rw[H1,H1];refine⟨⟨h.sublist (List.takeWhile_sublist _),List.pairwise_singleton _ _,?_⟩,h.sublist (List.dropWhile_sublist _),?_⟩
   .intro f b k e;rw[R_.1 e];exact j f b
   .intro f b k e;have e:=q k e
    rcases T_.1 b with b|b
    .have:=j f b
     omega
    .rw[R_.1 b];exact e
  .intro x;constructor
   .intro a
    rcases T_.1 a with a|a
    .rcases T_.1 a with a|a
     .exact .inl (by rw[<-d];exact FL _ a)
     .exact .inr (R_.1 a)
    .exact .inl (by rw[<-d];exact GG _ a)
   .rintro(a|rfl)
    .rw[<-d]at a
     rcases T_.1 a with a|a
     .exact FL _ (FL _ a)
     .exact GG _ a
    .exact FL _ (GG _ (R_.2 rfl))
def zQ:∀{l:List Int},l.Pairwise (· < ·)->Asc (xs.foldl insL l) (λx=>x∈l∨x∈xs):=by
 induction xs with
 |nil=>intro l h;exact⟨h,λx=>by simp⟩
 |cons n xs d=>
  intro l h;have a:=Bz (n:=n) h;have b:=d a.lt;refine⟨b.lt,λx=>?_⟩;rw[GT,b.mem,a.mem,N_];exact or_assoc
def lu:Asc (oC xs) (· ∈xs):=by
 have h:=zQ xs (l:=[]) List.Pairwise.nil;exact⟨h.lt,λa=>(h.mem a).trans s_⟩
def Asc.nodup{a:List Int}{P:Int->Prop}(h:Asc a P):a.Nodup:=h.lt.imp (λh=>Int.ne_of_lt h)
def q0{l xs:List Int}(h:B0 l)(a:∀x∈xs,x∈l):(oC xs).length<=50000000:=
 h _ (lu xs).nodup λx b=>a x (((lu xs).mem x).1 b)
def xQ{fs:List Vl}{a:Nat}(b:a<fs.length):pM (fs.take (a+1))=pM (fs.take a)++(if isRef fs[a]=true then[fs[a].n] else[]):=by
 rw[X_ b];unfold pM;rw[HM,FI];split<;>simp_all
def xR(a:i<h.length):kc (h.take (i+1))=kc (h.take i)++pM h[i].fs:=by
 rw[X_ a];unfold kc;rw[F2];simp

def Ei{x:Int}(h0:0<=x)(a:x<9223372036854775808):bits .and .i64 x 1048575=x % 1048576:=
 bits_mask .i64 63 I (λb h0 a=>by rw[GX];omega) 20 I x h0 a
def D2{a b c d:Int}{x y:Bool}(h:a=b)(k:c=d)(l:x=y):Ending.returned (.tuple #[Y a,Y c,.bool x])=Ending.returned (.tuple #[Y b,Y d,.bool y]):=by rw[h,k,l]
def uv(id:Int):Int:=if id<1048576 then 0 else id / 1048576-1
def DW(id:Int):Int:=if id<1048576 then 0 else id % 1048576
def oA(id:Int)(w:World)(j:id<=9223372036854775807):
 Calls prog 13 #[Y id] w λe w'=>e=.returned (.tuple #[Y (uv id),Y (DW id),.bool (decide (1048576<=id))])/\w=w':=by
 have a:=O (show uv id=if id<1048576 then 0 else id / 1048576-1 from rfl);have b:=O (show DW id=if id<1048576 then 0 else id % 1048576 from rfl)
 refine ig λf d=>?_
 by_cases h:id<1048576
 .go_enter func13,ntmps13
  go_wp2;refine FY (v:=.tuple #[Y 0,Y 0,.bool false]) k_ rfl ?_;rw[d.out];exact⟨D2 (by rw[a.out,O_ h]) (by rw[b.out,O_ h]) p_,rfl⟩
 .have g:=Ei (x:=id) X X
  go_enter func13,ntmps13
  go_wp2;refine FY (v:=.tuple #[Y (id / 1048576-1),Y (id % 1048576),.bool true]) k_ rfl ?_;rw[d.out];exact⟨D2 (by rw[a.out,I_ X]) (by rw[b.out,I_ X]) p_,rfl⟩
def va(h:List Ob):List Int:=(oC (kc h)).filter λn=>(iU h n).isNone
def k7(id:Int):Bool:=decide (1048576<=id)
def km(h:List Ob):List Int:=(h.filter λo=>k7 o.id).map λo=>uv o.id
def p4(runs:List Int)(i:Int):Bool:=k7 i&&decide (uv i∈runs)
def allH(h:List Ob):List Int:=oC (kc h++hQ h)
def ms(h:List Ob)(runs:List Int):List Int:=(allH h).filter (p4 runs)
def xN(a:i<h.length):km (h.take (i+1))=km (h.take i)++(if k7 h[i].id=true then[uv h[i].id] else[]):=by
 rw[X_ a];unfold km;rw[HM,FI];split<;>simp_all
def uR(h:List Ob):(km h).length<=h.length:=by unfold km;rw[F6];exact F7 _ _
def wb(l:List Int):(oC l).length<=l.length:=pU _ (lu l).nodup λb a=>((lu l).mem b).1 a
def wK(A:OA)(c:Nat)(l:List Vl)(w:World)(h:yQ cf w A l)(t:l.length<=1000000000):
 Calls prog 151 #[.slice A l.length c] w λe w'=>∃(A':OA) (c':Nat),
  e=.returned (.slice A' l.length c')/\Vs w' A' l/\J [] w w':=by
 obtain⟨k,n,o,j,m⟩:=info_parts infoVl
 have f:=λg=>Lib.run_eql_slice_nil (P:=prog) g 54 38 A l.length c 0 0 underlying54
 rcases A with _|q
 .have a:l.length=0:=by
   rcases GI l.length with a|a
   .exact a
   .obtain⟨p,r,b,_⟩:=Sl.f_ h a
    cases b
  have d:l=[]:=Ga a;subst d;simp only[Gh]at f |-
  go_enter func151,ntmps151
  go_wp2;go_ret;exact⟨none,0,rfl,Gz _ _ _ _,H _ _⟩
 .generalize b:l.length=s at*
  go_enter func151,ntmps151
  go_wp2_with (at_builtin;refine iJ _ rfl (.tmp 5) (.tmp 6) 54 rfl w.heap.size 38 k _ 2 16 underlying54 n o j m rfl I I _ 0 0 [] rfl (zA _ _ _ _ _ s_ s_) (some q) s c (jd l) rfl (by subst b;exact Sl.alloc h _) (nE l) X s_ ?_;intro d p u a r;simp only[W_,FU]at a)
  go_ret;refine⟨d,p,qf X,?_,r.gr [] w X ((H _ w).alloc _)⟩;subst b;exact Sl.iQ a
def yd(a:Ob)(A:OA)(c:Nat){w:World}(h:yQ cf w A a.fs)(m:a.fs.length<=1000000000):
 Calls prog 103 #[.agg #[Y a.id,.slice A a.fs.length c]] w λe w'=>∃(A':OA) (c':Nat),
  e=.returned (.agg #[Y a.id,.slice A' a.fs.length c'])/\Vs w' A' a.fs/\J [] w w':=by
 obtain⟨id,b⟩:=a;simp only at h m |-;obtain⟨k,-,-⟩:=qL w 56 #[Y id,.slice A b.length c] 56 #[Y 0,n_];obtain⟨y,z⟩:=k.iM;obtain⟨-,n,-⟩:=qL w 56 #[Y id,.slice A b.length c] 56 #[Y 0,n_]
 go_enter func103,ntmps103
 go_wp2_with fail
 go_region_with (go_at_call 151;refine(wK A c b _ ((h.alloc _).alloc _).drew m).mono ?_;rintro e q⟨f,g,rfl,p,j⟩;have d:=n.drew.gr j s_;obtain⟨t,u⟩:=d.iM;have s:=d.hm 0;have r:=d.hm 1;obtain⟨v,x⟩:=(k.drew.gr j s_).iM)
 all_goals
  go_wp2
  (try simp only[Exit.inBlock,Exit.then])
  have o:=(d.hN 0 (Y id)).hN 1 (.slice f b.length g);refine rr_ #[Y id,.slice f b.length g] o underlying56 ⟨f,g,rfl,?_,?_⟩
  .exact Sl.ir p d I (((H [w.heap.size+1] q).setCell (.inl s_) _).setCell (.inl s_) _)
  .exact(((((H [] w).alloc _).alloc _).drew.trans j).setCell (.inr s_) _).setCell (.inr s_) _
def sz(A:OA)(c:Nat)(l:List Rw)(id:Int){w:World}(h:xh e0 w A l)(B:l.length<=1000000000):
 Calls prog 102 #[.agg #[.slice A l.length c],Y id] w λe w'=>e=.returned (Y (jn (hU l) id))/\J [] w w':=by
 have q:=O (show jn (hU l) id=iR (λk:Rw=>k.o.id==id) l 0 by unfold jn hU;exact pa _ _ _ _ λ_ _=>rfl);generalize y:l.length=b at*;have p:Bk (w.alloc (.cells #[.slice A b c] 35)) w.heap.size 35 #[.slice A b c]:=Q_ w _ _;have x:(w.alloc (.cells #[.slice A b c] 35)).cell? (Z w.heap.size 0)=some (.slice A b c):=p.f_ 0
 go_enter func102,ntmps102
 go_wp2
 go_step3
 go_wp2
 go_step3
 go_wp2
 go_loopw [5,11] (λr i w'=>∃a:Nat,a<=b/\r=Y (-1)/\i=Y a/\jn (hU l) id=iR (λk:Rw=>k.o.id==id) (l.drop a) a/\J [] w w') (λ_ i _=>b-(intOf i).toNat)
 case atStart=>exact⟨0,P_ _,rfl,rfl,q.out,(H _ _).alloc _⟩
 case round=>
  obtain⟨a,z,rfl,rfl,m,d⟩:=hrel;have f:=O m;clear m
  by_cases s:a<b
  .have n:a<l.length:=X;obtain⟨t,C,rfl,u,v⟩:=(h.g_ d).at_ n
   by_cases j:l[a].o.id=id
   .have g:(l[a].o.id==id)=true:=by simp[j]
    clear j;go_wp2
    try rw[Exit.noGoto_ret]
    go_ret;exact⟨kq (by rw[f.out,mL _ _ _ _ X g]),d.alloc _⟩
   .have g:(l[a].o.id==id)=false:=by simp[j]
    go_wp2;go_roundw
    case rel=>exact⟨a+1,X,rfl,gn,by rw[f.out,k6 _ _ _ _ X g],d.alloc _⟩
    case measure=>exact mz
  .go_wp2
   try rw[Exit.noGoto_ret]
   go_ret;exact⟨kq (by rw[f.out,nN _ _ _ _ X]),d⟩
def zL{E:Rw->TypeId}(A:OA)(c:Nat)(l:List Rw)(id:Int)(w:World)(h:xh e0 w A l)(V:uA E w l)(C:l.length<=1000000000):
 Calls prog 60 #[.agg #[.slice A l.length c],Y id] w λe w'=>
  (iU (hU l) id=none/\e=.returned (.tuple #[.agg #[Y 0,n_],.bool false])/\J [] w w')∨
  ∃(o:Ob) (A':OA) (c':Nat),iU (hU l) id=some o/\e=.returned (.tuple #[.agg #[Y o.id,.slice A' o.fs.length c'],.bool true])/\Vs w' A' o.fs/\J [] w w':=by
 have N:Bk (w.alloc (.cells #[.slice A l.length c] 35)) w.heap.size 35 #[.slice A l.length c]:=Q_ w _ _;have k:=N.alloc (.cells #[Y 0,n_] 56);obtain⟨-,x,-⟩:=qL w 35 #[.slice A l.length c] 56 #[Y 0,n_];have h0:=k.f_ 0
 rcases m5 (hU l) id with⟨s,f⟩|⟨d,U,s,f⟩
 .go_enter func60,ntmps60
  go_wp2_with (go_at_call 102;refine(sz A c l id ((h.alloc _).alloc _) C).mono ?_;rintro e w1⟨rfl,a⟩;have b:=x.gr a s_;have r:=k.gr a s_;have W:=r.f_ 0;obtain⟨Q,R⟩:=b.iM;have M:=b.hm 0;have K:=b.hm 1)
  have q:=(b.hN 0 (Y 0)).hN 1 (n_);refine l5 #[Y 0,n_] (.bool false) q underlying56 (.inl ⟨f,rfl,?_⟩);exact(((((H [] w).alloc _).alloc _).trans a).setCell (.inr s_) _).setCell (.inr s_) _
 .have u:d<l.length:=by simpa[hU]using U
  obtain⟨v,G,rfl,y,z⟩:=h.at_ u;obtain⟨p,i⟩:=V l[d] (M_ u)
  have D:(hU l)[d]=l[d].o:=by simp[hU]
  rw[D]at f;clear D;obtain⟨⟨g,j⟩,P⟩:∃o,l[d].o=o:=⟨_,rfl⟩;rw[P]at p i f y z;generalize l[d].A=X at*;generalize l[d].c=T at*;have L:=O s;clear s;have B:=jw (jw y (.cells #[.slice (some (Z v G)) l.length c] 35)) (.cells #[Y 0,n_] 56);have F:=jw (jw z (.cells #[.slice (some (Z v G)) l.length c] 35)) (.cells #[Y 0,n_] 56);simp only at p i B F
  go_enter func60,ntmps60
  go_wp2_with (first|(go_at_call 102;refine(sz _ c l id ((h.alloc _).alloc _) C).mono ?_;rintro e w1⟨rfl,a⟩;rw[L.out];have r:=k.gr a s_;have W:=r.f_ 0;have bw:=a.f_ B s_;have aZ:=a.f_ F s_)|(go_at_call 103;refine(yd ⟨g,j⟩ X T (((p.alloc _).alloc _).g_ a) i).mono ?_;rintro e w2⟨m,n,rfl,S,t⟩;have b:=x.gr (a.trans t) s_;obtain⟨Q,R⟩:=b.iM;have M:=b.hm 0;have K:=b.hm 1))
  have q:=(b.hN 0 (Y g)).hN 1 (.slice m j.length n);refine l5 #[Y g,.slice m j.length n] (.bool true) q underlying56 (.inr ⟨⟨g,j⟩,m,n,f,rfl,?_,?_⟩)
  .exact Sl.ir S b I (((H [w.heap.size+1] w2).setCell (.inl s_) _).setCell (.inl s_) _)
  .exact((((((H [] w).alloc _).alloc _).trans a).trans t).setCell (.inr s_) _).setCell (.inr s_) _
