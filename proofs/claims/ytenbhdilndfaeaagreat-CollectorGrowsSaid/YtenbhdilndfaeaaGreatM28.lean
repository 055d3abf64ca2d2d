import Derived.Test.YtenbhdilndfaeaaGreatM02
import Derived.Test.YtenbhdilndfaeaaGreatM27
import Derived.WalkMore
set_option maxRecDepth 100000
set_option maxHeartbeats 0
set_option linter.all false
namespace Go.Proofs.YtenbhdilndfaeaaGreat
open Go.RowKit Go.Proofs.Tryz
variable{Q:Exit->Act->World->Prop}{a:Act}{aS co:TypeId}
theorem wI{P:Program}{md:Region.Mode}{S:World->Prop}{N:Nat}{l:List Oper}(i j:Nat){J d:Oper}{r1 r2:List Oper}{fuel:Nat}{listed:Array Bool}{w:World}(hi:∀e:Act->World->Prop,Shut (∀a w,(i<N->S w)->jv P md l.toArray Q S N fuel (listed.setIfInBounds i true) a w->e a w)->if Region.wanted J (yielded l.toArray a.tmps)=true then Oper.wp P J a w e Q else e (a.put J.dst undef) w)(hj:∀e:Act->World->Prop,Shut (∀a w,(j<N->S w)->jv P md l.toArray Q S N fuel (listed.setIfInBounds j true) a w->e a w)->if Region.wanted d (yielded l.toArray a.tmps)=true then Oper.wp P d a w e Q else e (a.put d.dst undef) w)(h1:l.drop i=J::r1:=by rfl)(h2:l.drop j=d::r2:=by rfl)(hr:Region.ready md l.toArray listed=[i,j]:=by kernel_rfl):jv P md l.toArray Q S N (fuel+1) listed a w:=by
 exact Iq
abbrev zs(l:List Int):List Value:=l.map (Value.int .i64)
abbrev Ls(w:World)(A:OA)(l:List Int):Prop:=Ns w 2 A l
def Zr(base:Nat)(w:World)(A:OA)(c:Nat)(l:List Int):Prop:=w.ownsRow base 2 1 (.slice A l.length c) l.length (zs l)
section
variable{base c:Nat}{w w':World}{A:OA}{l xs news:List Int}
theorem Zr.ls(h:Zr base w A c l):Ls w A l:=Sl.iT h
theorem Zr.hG(h:Zr base w A c l)(hg:Gr [] w w'):Zr base w' A c l:=iK h hg
theorem Zr.nil:Zr base w none 0 []:=iV _ _ _ _
theorem Cg(l:List Int):∀u∈zs l,u.oneCell'=true:=λu hu=>by
 obtain⟨x,_,rfl⟩:=EM.1 hu
 rfl
theorem Ls.one(w:World)(x:Int):Sl (w.alloc (.cells #[i_ x] 2)) 2 1 (j_ w.heap.size) 1 (zs [x]):=
 ⟨rfl,λ_=>⟨_,0,#[i_ x],_,rfl,P_ w _ _,λj u hu=>by simpa using hu⟩⟩
theorem Du{f:TypeId}{ops:Array Oper}{rest:List Oper}{o:Oper}{s x:Operand}{B:OA}{aw m n0:Nat}(aF:Zr base w B aw xs)(hr:Sl w f 1 A m (zs news))(hb:base<=w.heap.size)(hn:xs.length+m<=1000000000)(h:∀(A':OA) (c':Nat) (w':World),Zr base w' A' c' (xs++news)->App base 2 w w'->wpList prog ops Q rest (a.put o.dst (.slice A' (n0+m) c')) w')(V:o.guard=none:=by rfl)(ho:o.op=.call {callee:=.builtin .append,args:=#[s,x],argTypes:=#[27,27]}:=by rfl)(hs:a.eval s=.slice B n0 aw:=by rfl)(hx:a.eval x=.slice A m c:=by rfl)(cU:xs.length=n0:=by first|rfl|(simp;done)):
 wpList prog ops Q (o::rest) a w:=by
 obtain⟨bF,bE,bt,a8,bo⟩:=info_parts infoI64
 have hm:=by have:=hr.1;simpa using this
 subst cU
 refine iL w V s x _ ho base 2 bF _ 1 8 underlying27 bE bt a8 bo rfl d_ d_ B xs.length aw (zs xs) hs aF A m c (zs news) hx hr (Cg _) o_ hb λA' c' w' h1 h2=>h A' c' w' ?_ h2
 unfold Zr;rw[J_,hm,zs,EL];exact h1
end
theorem yU{tb:TypeId}(A:OA)(c:Nat)(l:List Int)(n:Int)(w:World)(h:Ns w tb A l)(hl:l.length<=1000000000):
 Calls prog 18 #[.slice A l.length c,i_ n] w λe w'=>e=.returned (.bool (decide (n∈l)))/\w=w':=by
 refine ia λQ ak=>?_
 go_enter func18,ntmps18
 go_wp2
 go_loop [5] (λap=>∃k:Nat,k<=l.length/\ap=i_ k/\n∉l.take k) (λap=>l.length-(intOf ap).toNat)
 case atStart=>exact⟨0,O_ _,gn,s_⟩
 case round=>
  obtain⟨k,hk,rfl,G⟩:=hrel;have aI:=h_ G;clear G
  by_cases ag:k<l.length
  .obtain⟨b,off,hA,hc⟩:=h.at_ ag;subst hA
   by_cases he:l[k]=n
   .have q:(l[k]==n)=true:=by simp[he]
    have HM:=h_ (show n∈l from he▸N_ ag);clear he;go_wp2;rw[ak.out];exact⟨by rw[E8 HM.out],rfl⟩
   .have q:(l[k]==n)=false:=by simp[he]
    have HM:=h_ (show n∉l.take (k+1) by
     rw[W_ ag,X_];rintro(h1|h1)
     .exact aI.out h1
     .exact he (I_.1 h1).symm)
    clear he;go_wp2;go_round
    case rel=>exact⟨k+1,o_,gn,HM.out⟩
    case measure=>exact mz
  .go_wp2;rw[ak.out];refine⟨?_,rfl⟩
   have hn:=by have:=aI.out;rwa [EI o_]at this
   rw[FH hn]
def insL(l:List Int)(n:Int):List Int:=if n∈l then l else l.takeWhile (λx=>decide (x<n))++[n]++l.dropWhile (λx=>decide (x<n))
def nX(xs:List Int)(w:World)(e:Ending)(w':World):Prop:=∃(A:OA) (c:Nat),e=.returned (.slice A xs.length c)/\Ls w' A xs/\xs.length<=c/\Gr [] w w'
def isRef(v:Vl):Bool:=v.r&&(v.n !=0)
def pW(fs:List Vl):List Int:=(fs.filter isRef).map (·.n)
def m6(h:List Ob):List Int:=h.flatMap λo=>pW o.fs
def iG(h:List Ob):List Int:=h.map (·.id)
def oX(l:List Int):List Int:=l.foldl insL []
structure Asc(ys:List Int)(P:Int->Prop):Prop where
 lt:ys.Pairwise (· < ·)
 mem:∀x,x∈ys↔P x
theorem qA:∀(xs:List Int) {l:List Int},xs.Nodup->(∀x∈xs,x∈l)->xs.length<=l.length
 |[],_,_,_=>O_ _
 |x::r,l,hn,hs=>by
  have hx:=hs x E6
  have hr:=qA r (l:=l.erase x) (GC.1 hn).2 λy hy=>by
   have a:y≠x:=λe=>(GC.1 hn).1 (e▸hy)
   exact(List.mem_erase_of_ne a).2 (hs y (EQ _ hy))
  have h1:=List.length_erase_of_mem hx;have h2:=List.length_pos_of_mem hx;simp only[Z_];omega
theorem pV{p:Int->Bool}:∀(l:List Int),∀x∈l.takeWhile p,p x=true
 |[],x,hx=>by cases hx
 |y::l,x,hx=>by
  rw[List.takeWhile_cons]at hx;split at hx
  .rename_i hp
   rcases L_.1 hx with rfl|hx
   .exact hp
   .exact pV l x hx
  .cases hx
theorem Aq{l:List Int}{n:Int}(h:l.Pairwise (· < ·)):Asc (insL l n) (λx=>x∈l∨x=n):=by
 unfold insL;split
 .rename_i hn;exact⟨h,λx=>⟨.inl,λh=>h.elim id (λe=>e▸hn)⟩⟩
 .rename_i hn;have e:=List.takeWhile_append_dropWhile (p:=λx=>decide (x<n)) (l:=l)
  have ht:∀x∈l.takeWhile (λx=>decide (x<n)),x<n:=λx hx=>by
   have:=pV _ x hx
   exact LO
  have hd:∀x∈l.dropWhile (λx=>decide (x<n)),n<x:=by
   generalize de:l.dropWhile (λx=>decide (x<n))=ds at*
   cases ds with
   |nil=>intro x hx;cases hx
   |cons y r=>
    have hy:¬y<n:=by
     have h1:=List.head?_dropWhile_not (p:=λx=>decide (x<n)) (l:=l);rw[de]at h1
     simpa using h1
    have hp:(y::r).Pairwise (· < ·):=by
     rw[<-de];exact h.sublist (List.dropWhile_sublist _)
    have d:n≠y:=λaJ=>hn (by rw[<-e,aJ];simp)
    have c:n<y:=o_;intro x hx
    rcases L_.1 hx with rfl|hx
    .exact c
    .have:=List.rel_of_pairwise_cons hp hx
     omega
  constructor
  .rw[Gy,Gy];refine⟨⟨h.sublist (List.takeWhile_sublist _),List.pairwise_singleton _ _,?_⟩,h.sublist (List.dropWhile_sublist _),?_⟩
   .intro a ha b hb;rw[I_.1 hb];exact ht a ha
   .intro a ha b hb;have hb:=hd b hb
    rcases X_.1 ha with ha|ha
    .have:=ht a ha
     omega
    .rw[I_.1 ha];exact hb
  .intro x;constructor
   .intro hx
    rcases X_.1 hx with hx|hx
    .rcases X_.1 hx with hx|hx
     .exact .inl (by rw[<-e];exact E4 _ hx)
     .exact .inr (I_.1 hx)
    .exact .inl (by rw[<-e];exact Gc _ hx)
   .rintro(hx|rfl)
    .rw[<-e]at hx
     rcases X_.1 hx with hx|hx
     .exact E4 _ (E4 _ hx)
     .exact Gc _ hx
    .exact E4 _ (Gc _ (I_.2 rfl))
theorem yY(xs:List Int):∀{l:List Int},l.Pairwise (· < ·)->Asc (xs.foldl insL l) (λx=>x∈l∨x∈xs):=by
 induction xs with
 |nil=>intro l h;exact⟨h,λx=>by simp⟩
 |cons n xs Z=>
  intro l h;have h1:=Aq (n:=n) h;have h2:=Z h1.lt;refine⟨h2.lt,λx=>?_⟩;rw[FY,h2.mem,h1.mem,L_];exact or_assoc
theorem mK(xs:List Int):Asc (oX xs) (· ∈xs):=by
 have h:=yY xs (l:=[]) List.Pairwise.nil;exact⟨h.lt,λx=>(h.mem x).trans s_⟩
theorem Asc.nodup{ys:List Int}{P:Int->Prop}(h:Asc ys P):ys.Nodup:=h.lt.imp (λh=>Int.ne_of_lt h)
theorem rK(A:OA)(c:Nat)(l:List Vl)(w:World)(h:xz co w A l)(hn:l.length<=1000000000):
 Calls prog 151 #[.slice A l.length c] w λe w'=>∃(A':OA) (c':Nat),
  e=.returned (.slice A' l.length c')/\Vs w' A' l/\Gr [] w w':=by
 obtain⟨bF,bE,bt,a8,bo⟩:=info_parts infoVl
 have am:=λW=>Lib.run_eql_slice_nil (P:=prog) W 54 38 A l.length c 0 0 underlying54
 rcases A with _|d
 .have h0:l.length=0:=Kv;have h1:l=[]:=EP h0;subst h1;simp only[EY]at am |-
  go_enter func151,ntmps151
  go_wp2;go_ret;exact⟨none,0,rfl,Fm _ _ _ _,F_ _ _⟩
 .generalize hL:l.length=n at*
  go_enter func151,ntmps151
  go_wp2_with (at_builtin;refine iL _ rfl (.tmp 5) (.tmp 6) 54 rfl w.heap.size 38 bF _ 2 16 underlying54 bE bt a8 bo rfl d_ d_ _ 0 0 [] rfl (ud _ _ _ _ _ s_ s_) (some d) n c (jd l) rfl (by subst hL;exact Sl.alloc h _) (np l) o_ s_ ?_;intro A1 c1 w1 a f;simp only[U_,EO]at a)
  go_ret;refine⟨A1,c1,og o_,?_,f.gr [] w o_ ((F_ _ w).alloc _)⟩;subst hL;exact Sl.iT a
theorem xp(o:Ob)(A:OA)(c:Nat)(w:World)(h:xz co w A o.fs)(hn:o.fs.length<=1000000000):
 Calls prog 103 #[.agg #[i_ o.id,.slice A o.fs.length c]] w λe w'=>∃(A':OA) (c':Nat),
  e=.returned (.agg #[i_ o.id,.slice A' o.fs.length c'])/\Vs w' A' o.fs/\Gr [] w w':=by
 obtain⟨id,fs⟩:=o;simp only at h hn |-;obtain⟨aQ,-,-⟩:=qh w 56 #[i_ id,.slice A fs.length c] 56 #[i_ 0,n_];obtain⟨h0,h1⟩:=aQ.iH;obtain⟨-,bU,-⟩:=qh w 56 #[i_ id,.slice A fs.length c] 56 #[i_ 0,n_]
 go_enter func103,ntmps103
 go_wp2_with fail
 go_region_with (go_at_call 151;refine(rK A c fs _ ((h.alloc _).alloc _).drew hn).mono ?_;rintro e w1⟨A1,c1,rfl,hv1,hg1⟩;have n:=bU.drew.gr hg1 s_;obtain⟨bP,ck⟩:=n.iH;have H:=n.hH 0;have C:=n.hH 1;obtain⟨ca,ce⟩:=(aQ.drew.gr hg1 s_).iH)
 all_goals
  go_wp2
  (try simp only[Exit.inBlock,Exit.then])
  have d:=(n.hW 0 (i_ id)).hW 1 (.slice A1 fs.length c1);refine rr_ #[i_ id,.slice A1 fs.length c1] d underlying56 ⟨A1,c1,rfl,?_,?_⟩
  .exact Sl.iu hv1 n d_ (((F_ [w.heap.size+1] w1).setCell (.inl s_) _).setCell (.inl s_) _)
  .exact(((((F_ [] w).alloc _).alloc _).drew.trans hg1).setCell (.inr s_) _).setCell (.inr s_) _
theorem rJ(A:OA)(c:Nat)(l:List Rw)(id:Int)(w:World)(h:u3 aS w A l)(hn:l.length<=1000000000):
 Calls prog 102 #[.agg #[.slice A l.length c],i_ id] w λe w'=>e=.returned (i_ (jz (hY l) id))/\Gr [] w w':=by
 have be:=h_ (show jz (hY l) id=iO (λr:Rw=>r.o.id==id) l 0 by unfold jz hY;exact qd _ _ _ _ _ λ_ _=>rfl);generalize hL:l.length=n at*;have aQ:Bk (w.alloc (.cells #[.slice A n c] 35)) w.heap.size 35 #[.slice A n c]:=P_ w _ _;have h0:(w.alloc (.cells #[.slice A n c] 35)).cell? (c_ w.heap.size 0)=some (.slice A n c):=aQ.f_ 0
 go_enter func102,ntmps102
 go_wp2
 go_step3
 go_wp2
 go_step3
 go_wp2
 go_loopw [5,11] (λf i w'=>∃k:Nat,k<=n/\f=i_ (-1)/\i=i_ k/\jz (hY l) id=iO (λr:Rw=>r.o.id==id) (l.drop k) k/\Gr [] w w') (λ_ i _=>n-(intOf i).toNat)
 case atStart=>exact⟨0,O_ _,rfl,rfl,be.out,(F_ _ _).alloc _⟩
 case round=>
  obtain⟨k,hk,rfl,rfl,G,F⟩:=hrel;have aI:=h_ G;clear G
  by_cases ag:k<n
  .have az:k<l.length:=o_;obtain⟨b,off,rfl,bi,bq⟩:=(h.hG F).at_ az
   by_cases hv:l[k].o.id=id
   .have a:(l[k].o.id==id)=true:=by simp[hv]
    clear hv;go_wp2
    try rw[Exit.noGoto_ret]
    go_ret;exact⟨j9 (by rw[aI.out,lO _ _ _ _ o_ a]),F.alloc _⟩
   .have a:(l[k].o.id==id)=false:=by simp[hv]
    go_wp2;go_roundw
    case rel=>exact⟨k+1,o_,rfl,gn,by rw[aI.out,kB _ _ _ _ o_ a],F.alloc _⟩
    case measure=>exact mz
  .go_wp2
   try rw[Exit.noGoto_ret]
   go_ret;exact⟨j9 (by rw[aI.out,my _ _ _ _ o_]),F⟩
theorem yS{E:Rw->TypeId}(A:OA)(c:Nat)(l:List Rw)(id:Int)(w:World)(h:u3 aS w A l)(hr:tB E w l)(hn:l.length<=1000000000):
 Calls prog 60 #[.agg #[.slice A l.length c],i_ id] w λe w'=>
  (kn (hY l) id=none/\e=.returned (.tuple #[.agg #[i_ 0,n_],.bool false])/\Gr [] w w')∨
  ∃(o:Ob) (A':OA) (c':Nat),kn (hY l) id=some o/\e=.returned (.tuple #[.agg #[i_ o.id,.slice A' o.fs.length c'],.bool true])/\Vs w' A' o.fs/\Gr [] w w':=by
 have aQ:Bk (w.alloc (.cells #[.slice A l.length c] 35)) w.heap.size 35 #[.slice A l.length c]:=P_ w _ _;have a:=aQ.alloc (.cells #[i_ 0,n_] 56);obtain⟨-,bU,-⟩:=qh w 35 #[.slice A l.length c] 56 #[i_ 0,n_];have h0:=a.f_ 0
 rcases nE (hY l) id with⟨hi,hg⟩|⟨k,hk,hi,hg⟩
 .go_enter func60,ntmps60
  go_wp2_with (go_at_call 102;refine(rJ A c l id _ ((h.alloc _).alloc _) hn).mono ?_;rintro e w1⟨rfl,hg1⟩;have n:=bU.gr hg1 s_;have d:=a.gr hg1 s_;have hx:=d.f_ 0;obtain⟨ca,ce⟩:=n.iH;have H:=n.hH 0;have C:=n.hH 1)
  have a6:=(n.hW 0 (i_ 0)).hW 1 (n_);refine lT #[i_ 0,n_] (.bool false) a6 underlying56 (.inl ⟨hg,rfl,?_⟩);exact(((((F_ [] w).alloc _).alloc _).trans hg1).setCell (.inr s_) _).setCell (.inr s_) _
 .have az:k<l.length:=by simpa[hY]using hk
  obtain⟨b,off,rfl,bi,bq⟩:=h.at_ az;obtain⟨bJ,i⟩:=hr l[k] (N_ az)
  have ho:(hY l)[k]=l[k].o:=by simp[hY]
  rw[ho]at hg;clear ho;obtain⟨⟨O,K⟩,aq⟩:∃o,l[k].o=o:=⟨_,rfl⟩;rw[aq]at bJ i hg bi bq;generalize l[k].A=b4 at*;generalize l[k].c=S at*;have bl:=h_ hi;clear hi;have f:=jD (jD bi (.cells #[.slice (some (c_ b off)) l.length c] 35)) (.cells #[i_ 0,n_] 56);have g:=jD (jD bq (.cells #[.slice (some (c_ b off)) l.length c] 35)) (.cells #[i_ 0,n_] 56);simp only at bJ i f g
  go_enter func60,ntmps60
  go_wp2_with (first|(go_at_call 102;refine(rJ _ c l id _ ((h.alloc _).alloc _) hn).mono ?_;rintro e w1⟨rfl,hg1⟩;rw[bl.out];have d:=a.gr hg1 s_;have hx:=d.f_ 0;have bt:=hg1.f_ f s_;have a8:=hg1.f_ g s_)|(go_at_call 103;refine(xp ⟨O,K⟩ b4 S _ (((bJ.alloc _).alloc _).hG hg1) i).mono ?_;rintro e w2⟨av,ai,rfl,aV,J⟩;have n:=bU.gr (hg1.trans J) s_;obtain⟨ca,ce⟩:=n.iH;have H:=n.hH 0;have C:=n.hH 1))
  have a6:=(n.hW 0 (i_ O)).hW 1 (.slice av K.length ai);refine lT #[i_ O,.slice av K.length ai] (.bool true) a6 underlying56 (.inr ⟨⟨O,K⟩,av,ai,hg,rfl,?_,?_⟩)
  .exact Sl.iu aV n d_ (((F_ [w.heap.size+1] w2).setCell (.inl s_) _).setCell (.inl s_) _)
  .exact((((((F_ [] w).alloc _).alloc _).trans hg1).trans J).setCell (.inr s_) _).setCell (.inr s_) _
end Go.Proofs.YtenbhdilndfaeaaGreat
