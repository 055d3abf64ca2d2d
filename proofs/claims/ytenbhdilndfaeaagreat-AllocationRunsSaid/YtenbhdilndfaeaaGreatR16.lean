import Derived.Test.YtenbhdilndfaeaaGreatR15
set_option maxRecDepth 100000
set_option maxHeartbeats 0
set_option linter.all false
namespace Go.Proofs.YtenbhdilndfaeaaGreat
open Go.RowKit Go.Proofs.Tryz
variable{w:World}{k:Nat}(A:OA)(l:List ByteArray)(s:ByteArray)
def Mg{G:Prop} (h:G:=by
 go_wp2;go_round
 case rel=>exact⟨k+1,X,gn⟩
 case measure=>exact mz):G:=h
def Bs(w:World)(A:OA)(l:List ByteArray):Prop:=Sl w 9 1 A l.length (l.map Value.string)
def hasB(l:List ByteArray)(s:ByteArray):Bool:=l.any (λx=>x.toList==s.toList)
def oL(n c:Nat)(l:List ByteArray)(s:ByteArray)(w:World)(t:l.length=n)(h:Bs w A l)(C:n<=1000000):
 Calls prog 171 #[.slice A n c,.string s] w λe w'=>e=.returned (.bool (hasB l s))/\w=w':=by
 obtain⟨u,d⟩:∃u:Ending->World->Prop,u=λe w'=>e=.returned (.bool (hasB l s))/\w=w':=⟨_,rfl⟩
 rw[<-d];have o:=O d;have p:=O t;clear d t
 go_enter func171,ntmps171
 go_wp2
 go_loop [9] (λg=>∃k:Nat,k<=n/\g=Y k/\hasB l s=hasB (l.drop k) s) (λg=>n-(intOf g).toNat)
 case atStart=>exact⟨0,P_ _,gn,s_⟩
 case round=>
  obtain⟨k,D,rfl,j⟩:=hrel;have a:=O j;clear j
  by_cases z:k<n
  .have f:k<l.length:=ov p.out;obtain⟨B,E,v,r⟩:=h.f_ X;subst v;have x:=r k (.string l[k]) (by rw[F4,L_ f];rfl);obtain⟨y,i⟩:=nm_ (l[k]);have m:=O i;rw[<-i]at x;clear i r;go_wp2
   .rw[o.out];refine⟨?_,rfl⟩;rw[a.out,Y_ f,<-m.out]
    have b:(y.toList==s.toList)=true:=by assumption
    unfold hasB;rw[HS,b,HY]
   .go_round
    case rel=>
     refine⟨k+1,X,gn,?_⟩;rw[a.out,Y_ f,<-m.out]
     have b:=by assumption
     unfold hasB;rw[HS,b,Hx]
    case measure=>exact mz
  .go_wp2;rw[o.out];refine⟨?_,rfl⟩;rw[a.out,F3 (ov p.out)]
   rfl
def rB(l:List ByteArray)(s:ByteArray):List ByteArray:=if hasB l s=true then l else l++[s]
def qv(base:Nat)(w:World)(A:OA)(c:Nat)(l:List ByteArray):Prop:=w.ownsRow base 9 1 (.slice A l.length c) l.length (l.map Value.string)
def CT(base:Nat)(o:Option Nat)(l:List ByteArray)(w:World)(e:Ending)(w':World):Prop:=∃(A:OA) (c:Nat),e=.returned (.slice A l.length c)/\qv base w' A c l/\J (oS o) w w'
def qv.bs{base c:Nat}{A:OA}{l:List ByteArray}(h:qv base w A c l):Bs w A l:=Sl.iQ h
def ve(base:Nat)(A:OA){n:Nat}(c:Nat)(l:List ByteArray)(s:ByteArray)(w:World)(i:l.length=n)(h:qv base w A c l)(G:n<=100000)(K:base<=w.heap.size):
 Calls prog 173 #[.slice A n c,.string s] w (CT base (Value.slice A n c).ownBlock (rB l s) w):=by
 obtain⟨C,z,u,v,y⟩:=info_parts infoStr;obtain⟨L,f⟩:=nm_ (CT base (Value.slice A n c).ownBlock (rB l s) w);rw[<-f];have j:=O f;have b:=O i
 have m:w.ownsRow base 9 1 (.slice A n c) n (l.map Value.string):=by rw[<-i];exact h
 have o:=h.bs;clear f i h
 cases d:hasB l s with
 |true=>
  have a:=oL A n c l s w b.out o X;rw[d]at a;have g:=O a;have e:=O (show rB l s=l by unfold rB;rw[O_ d]);clear a d
  go_enter func173,ntmps173
  go_wp2_with (go_at_call 171;refine g.out.mono ?_;rintro B D⟨rfl,rfl⟩)
  rw[j.out];unfold CT;rw[e.out];exact⟨A,c,by rw[b.out];rfl,by unfold qv;rw[b.out];exact m,H _ _⟩
 |false=>
  have a:=oL A n c l s w b.out o X;rw[d]at a;have g:=O a;have e:=O (show rB l s=l++[s] by unfold rB;rw[I_ (by rw[d];decide)]);clear a d;have E:=iF m ((H [] w).alloc (.cells #[.string s] 9))
  go_enter func173,ntmps173
  go_wp2_with (first|(go_at_call 171;refine g.out.mono ?_;rintro B D⟨rfl,rfl⟩)|(at_builtin;refine j0 rfl rfl base 9 C 1 16 underlying207 z u v y rfl I I A n c _ rfl E _ 1 1 ([s].map Value.string) rfl (jj (n:=1) (s:=1) (Q_ w 9 #[.string s]) rfl) (by intro M p;simp at p;subst p;rfl) X p_ ?_;intro q t N r x F))
  rw[j.out];unfold CT;rw[e.out];refine⟨q,t,by rw[K_,b.out];rfl,?_,(((H _ w).alloc _).trans (J.iW x))⟩;unfold qv;rw[K_,FI,b.out];exact r
structure Ew where
 ex:Int
 name:Bool
 fn:Bool
 n:Bool
 op:Bool
 body:Bool
 els:Bool
def prt(k:Int):Ew:=
 if k=1∨k=11 then⟨1,true,false,false,false,false,false⟩
 else if k=2 then⟨2,false,false,true,false,false,false⟩
 else if k=3 then⟨-1,true,true,false,false,false,false⟩
 else if k=4 then⟨1,false,false,false,false,true,true⟩
 else if k=5 then⟨2,true,false,false,false,true,false⟩
 else if k=6 then⟨1,false,false,false,false,true,false⟩
 else if k=7∨k=8∨k=10 then⟨1,false,false,false,false,false,false⟩
 else if k=9 then⟨0,true,false,false,false,true,true⟩
 else⟨1,true,false,false,true,false,false⟩
def Ew.v(p:Ew):Value:=.tuple #[Y p.ex,.bool p.name,.bool p.fn,.bool p.n,.bool p.op,.bool p.body,.bool p.els,.bool true]
def E6(v:Value)(w:World)(e:Ending)(w':World):Prop:=e=.returned v/\w=w'
def uU(k:Int)(w:World)(a:1<=k)(b:k<=12):Calls prog 216 #[Y k] w (E6 (prt k).v w):=by
 rcases(by omega:k=1∨k=2∨k=3∨k=4∨k=5∨k=6∨k=7∨k=8∨k=9∨k=10∨k=11∨k=12)with rfl|rfl|rfl|rfl|rfl|rfl|rfl|rfl|rfl|rfl|rfl|rfl
 all_goals
  clear a b
  go_enter func216,ntmps216
  go_wp2;refine⟨rfl,(prt _).v,?_,rfl,rfl⟩
  kernel_rfl
def wC{k:Int}(b:1<=k)(c:k<=12):Calls prog 200 #[Y k] w λe w'=>e=.returned (.bool (prt k).name)/\w=w':=by
 have a:=O (uU k w b c);clear b c;obtain⟨f,d⟩:=nm_ (prt k);rw[<-d]at a |-;clear d;obtain⟨g,h,i,j,e,m,n⟩:=f
 go_enter func200,ntmps200
 go_wp2_with (go_at_call 216;refine a.out.mono ?_;rintro e w'⟨rfl,rfl⟩;simp only[Ew.v])
 go_ret;exact⟨rfl,rfl⟩
def FT.Dw(f:FT):f.E.length=3:=rfl
def B2(w:World)(A:OA)(fs:List FT):Prop:=Sl w 213 3 A fs.length (fs.flatMap FT.E)
def B2.at_{A:OA}{fs:List FT}(h:B2 w A fs)(e:k<fs.length):∃b a,A=some (Z b a)/\w.cell? (Z b (a+k*3))=some (.string fs[k].name)/\w.cell? (Z b (a+k*3+1))=some (.slice fs[k].AP fs[k].ps.length fs[k].cP)/\w.cell? (Z b (a+k*3+2))=some (.slice fs[k].A fs[k].bs.length fs[k].c):=by
 obtain⟨b,a,f,d⟩:=Sl.f_ h X;refine⟨b,a,f,?_,?_,?_⟩
 .exact d (k*3) _ (by have:=jg FT.E 3 FT.Dw fs k 0 e X;rw[G0]at this;rw[this];rfl)
 .rw[Ho];exact d (k*3+1) _ (by rw[jg FT.E 3 FT.Dw fs k 1 e X];rfl)
 .rw[Ho];exact d (k*3+2) _ (by rw[jg FT.E 3 FT.Dw fs k 2 e X];rfl)
def ul(s:ByteArray):List FT->Int->Int
 |[],_=> -1
 |f::l,k=>if(f.name.toList==s.toList)=true then k else ul s l (k+1)
def nO(n c:Nat)(fs:List FT)(s:ByteArray)(w:World)(y:fs.length=n)(h:B2 w A fs)(L:n<=1000):
 Calls prog 170 #[.agg #[.slice A n c],.string s] w λe w'=>e=.returned (Y (ul s fs 0))/\J [] w w':=by
 obtain⟨z,f⟩:∃z:Ending->World->Prop,z=λe w'=>e=.returned (Y (ul s fs 0))/\J [] w w':=⟨_,rfl⟩
 rw[<-f];have t:=O f;have v:=O y;clear f y;have m:=Q_ w 150 #[.slice A n c];have j:=(H [] w).alloc (.cells #[.slice A n c] 150)
 go_enter func170,ntmps170
 go_upto_region 1 with fail
 obtain⟨G,u⟩:=nm_ (w.alloc (.cells #[.slice A n c] 150));rw[<-u]at m j |-;clear u;obtain⟨M,x⟩:=nm_ w.heap.size;rw[<-x]at m |-;clear x;have C:=m.f_ 0
 go_upto_region 2 with fail
 clear C
 go_loopw [10] (λi w'=>∃k:Nat,k<=n/\i=Y k/\ul s fs 0=ul s (fs.drop k) k/\J [] w w') (λi _=>n-(intOf i).toNat)
 case atStart=>exact⟨0,P_ _,gn,s_,j⟩
 case round=>
  obtain⟨k,N,rfl,p,a⟩:=hrel;have b:=O p;clear p j
  by_cases I:k<n
  .have g:k<fs.length:=ov v.out;obtain⟨K,P,B,E,F,D⟩:=B2.at_ (Sl.g_ h a) g;subst B;obtain⟨Q,o⟩:=nm_ (fs[k]);have r:=O o;rw[<-o]at E F D;clear o;go_wp2
   .rw[t.out];refine⟨?_,a.alloc _⟩;rw[b.out,Y_ g,<-r.out]
    have d:=by assumption
    rw[ul,O_ d]
    rfl
   .go_roundw
    case rel=>
     refine⟨k+1,X,gn,?_,a.alloc _⟩;rw[b.out,Y_ g,<-r.out]
     have d:=by assumption
     rw[ul,I_ (by rw[d];decide)]
     rfl
    case measure=>exact mz
  .go_wp2;rw[t.out];refine⟨?_,a⟩;rw[b.out,F3 (ov v.out)]
   rfl
def opWords:List ByteArray:=[{data:=#[]},{data:=#[97,100,100]},{data:=#[115,117,98]},{data:=#[109,117,108]},{data:=#[100,105,118]},{data:=#[109,105,110]},{data:=#[109,97,120]},{data:=#[97,110,100]},{data:=#[111,114]},{data:=#[120,111,114]},{data:=#[108,101,115,115]},{data:=#[101,113,117,97,108]}]
def nH:List ByteArray:=[{data:=#[110,105,108]},{data:=#[102,105,101,108,100]},{data:=#[110,101,119]},{data:=#[102,117,110,99]},{data:=#[115,101,116]},{data:=#[115,116,111,114,101]},{data:=#[99,97,108,108]},{data:=#[105,102]},{data:=#[101,108,115,101]},{data:=#[102,111,114]},{data:=#[119,104,105,108,101]},{data:=#[114,101,116,117,114,110]},{data:=#[116,104,114,111,119]},{data:=#[116,114,121]},{data:=#[99,97,116,99,104]},{data:=#[101,109,105,116]},{data:=#[97,115,107]},{data:=#[114,101,100,117,99,101]},{data:=#[101,110,100]}]
def Bh:Array Value:=#[e_,.string {data:=#[97,100,100]},.string {data:=#[115,117,98]},.string {data:=#[109,117,108]},.string {data:=#[100,105,118]},.string {data:=#[109,105,110]},.string {data:=#[109,97,120]},.string {data:=#[97,110,100]},.string {data:=#[111,114]},.string {data:=#[120,111,114]},.string {data:=#[108,101,115,115]},.string {data:=#[101,113,117,97,108]}]
def zB:Calls prog 208 #[] w λe w'=>e=.returned (.slice (j_ w.heap.size) 12 12)/\w'=w.alloc (.cells Bh 9):=by
 go_enter func208,ntmps208
 go_wp2_with fail
 go_ret;exact⟨rfl,rfl⟩
def wO{l:List ByteArray}{s:ByteArray}(h:hasB l s=false)(a:k<l.length):(l[k].toList==s.toList)=false:=by
 unfold hasB at h;rw[List.any_eq_false]at h
 simpa using h l[k] (M_ a)
def Cq(h:hasB opWords s=false):Calls prog 221 #[.string s] w λe w'=>e=.returned (.tuple #[Y 0,.bool false])/\J [] w w':=by
 obtain⟨g,a⟩:∃g:Ending->World->Prop,g=λe w'=>e=.returned (.tuple #[Y 0,.bool false])/\J [] w w':=⟨_,rfl⟩
 rw[<-a];have i:=O a;clear a;have p:=(H [] w).alloc (.cells Bh 9);have o:=Q_ w 9 Bh
 go_enter func221,ntmps221
 go_wp2_with (go_at_call 208;refine(zB).mono ?_;rintro e w'⟨rfl,rfl⟩)
 go_loop [8] (λb=>∃k:Nat,k<=12/\b=Y k) (λb=>12-(intOf b).toNat)
 case atStart=>exact⟨0,X,gn⟩
 case round=>
  obtain⟨k,r,rfl⟩:=hrel
  by_cases m:k<12
  .have c:k<opWords.length:=m;have n:=wO h c
   have d:Bh[k]?=some (.string opWords[k]):=by
    have:Bh=(opWords.map Value.string).toArray:=rfl
    rw[this];simp[L_ c]
   have j:=(o.f_ k).trans d;obtain⟨t,f⟩:=nm_ (opWords[k]);rw[<-f]at n j;clear f d
   by_cases q:0<k
   all_goals
    go_wp2;go_round
    case rel=>exact⟨k+1,X,gn⟩
    case measure=>exact mz
  .go_wp2;rw[i.out];exact⟨rfl,p⟩
def A4:Array Value:=#[.string {data:=#[110,105,108]},.string {data:=#[102,105,101,108,100]},.string {data:=#[110,101,119]},.string {data:=#[102,117,110,99]},.string {data:=#[115,101,116]},.string {data:=#[115,116,111,114,101]},.string {data:=#[99,97,108,108]},.string {data:=#[105,102]},.string {data:=#[101,108,115,101]},.string {data:=#[102,111,114]},.string {data:=#[119,104,105,108,101]},.string {data:=#[114,101,116,117,114,110]},.string {data:=#[116,104,114,111,119]},.string {data:=#[116,114,121]},.string {data:=#[99,97,116,99,104]},.string {data:=#[101,109,105,116]},.string {data:=#[97,115,107]},.string {data:=#[114,101,100,117,99,101]},.string {data:=#[101,110,100]}]
def A5(h:hasB opWords s=false)(y:hasB nH s=false):Calls prog 214 #[.string s] w λe w'=>e=.returned (.bool false)/\J [] w w':=by
 obtain⟨n,a⟩:∃n:Ending->World->Prop,n=λe w'=>e=.returned (.bool false)/\J [] w w':=⟨_,rfl⟩
 rw[<-a];have r:=O a;clear a;have j:=(H [] w).alloc (.cells A4 9);have f:=Q_ w 9 A4;obtain⟨q,c⟩:=nm_ (w.alloc (.cells A4 9));have x:=O c;rw[<-c]at j f;obtain⟨z,d⟩:=nm_ w.heap.size;have o:=O d;rw[<-d]at f;clear c d;have p:=O h;clear h
 go_enter func214,ntmps214
 go_upto_region 2 with fail
 rw[show w.alloc (.cells #[.string {data:=#[110,105,108]},.string {data:=#[102,105,101,108,100]},.string {data:=#[110,101,119]},.string {data:=#[102,117,110,99]},.string {data:=#[115,101,116]},.string {data:=#[115,116,111,114,101]},.string {data:=#[99,97,108,108]},.string {data:=#[105,102]},.string {data:=#[101,108,115,101]},.string {data:=#[102,111,114]},.string {data:=#[119,104,105,108,101]},.string {data:=#[114,101,116,117,114,110]},.string {data:=#[116,104,114,111,119]},.string {data:=#[116,114,121]},.string {data:=#[99,97,116,99,104]},.string {data:=#[101,109,105,116]},.string {data:=#[97,115,107]},.string {data:=#[114,101,100,117,99,101]},.string {data:=#[101,110,100]}] 9)=q from x.out.symm,<-o.out]
 go_loop [9] (λb=>∃k:Nat,k<=19/\b=Y k) (λb=>19-(intOf b).toNat)
 case atStart=>exact⟨0,X,gn⟩
 case round=>
  obtain⟨k,B,rfl⟩:=hrel
  by_cases u:k<19
  .have g:k<nH.length:=u;have v:=wO y g
   have i:A4[k]?=some (.string nH[k]):=by
    have:A4=(nH.map Value.string).toArray:=rfl
    rw[this];simp[L_ g]
   have t:=(f.f_ k).trans i;obtain⟨C,m⟩:=nm_ (nH[k]);rw[<-m]at v t;clear m i;exact Mg
  .go_wp2_with (go_at_call 221;refine(Cq s p.out).mono ?_;rintro e w'⟨rfl,g⟩)
   rw[r.out];exact⟨rfl,j.trans g⟩
structure mv(s:ByteArray):Prop where
 ch:∀(k:Nat) (h:k<s.size),97<=(s[k].toNat:Int)/\(s[k].toNat:Int)<=122
 pos:0<s.size
 le:s.size<=16
 op:hasB opWords s=false
 res:hasB nH s=false
def nK{s:ByteArray}(h:mv s):Calls prog 197 #[.string s] w λe w'=>e=.returned (.bool true)/\J [] w w':=by
 obtain⟨d,a⟩:∃d:Ending->World->Prop,d=λe w'=>e=.returned (.bool true)/\J [] w w':=⟨_,rfl⟩
 rw[<-a];have i:=O a;clear a;have c:=h.ch;have r:=h.pos;have q:=h.le;have f:=O h.op;have m:=O h.res;clear h;have n:(s.size:Int)<=16:=X
 go_enter func197,ntmps197
 go_wp2
 go_loop [3] (λb=>∃k:Nat,k<=s.size/\b=Y k) (λb=>s.size-(intOf b).toNat)
 case atStart=>exact⟨0,X,gn⟩
 case round=>
  obtain⟨k,p,rfl⟩:=hrel
  by_cases j:k<s.size
  .obtain⟨g,o⟩:=c k j;clear c;exact Mg
  .go_wp2_with (go_at_call 214;refine(A5 s f.out m.out).mono ?_;rintro e w'⟨rfl,g⟩)
   rw[i.out];exact⟨rfl,g⟩
def s2{s:ByteArray}(h:(s.size==1||s.size==4)=true)(d:(s.data.toList.all λc=>decide (97<=c.toNat)&&decide (c.toNat<=122))=true)(e:hasB opWords s=false)(f:hasB nH s=false):mv s:=by
 have g:=zu h;refine⟨λk a=>?_,X,X,e,f⟩
 have b:=FZ.1 d s[k] (by
  have:s[k]=s.data[k]'a:=rfl
  rw[this]
  exact Array.getElem_mem_toList a)
 simp at b;omega
def oe:hasB l s=l.any (λx=>x.data.toList==s.data.toList):=by
 unfold hasB;simp only[Hh]
def Dg:∀s∈ia,mv s:=by
 intro s a;simp[ia,hM]at a
 rcases a with rfl|rfl|rfl|rfl|rfl|rfl|rfl|rfl|rfl<;>exact s2 I I (by rw[oe];decide) (by rw[oe];decide)
def yL:mv wA/\mv qt/\mv pV:=⟨s2 I I (by rw[oe];decide) (by rw[oe];decide),s2 I I (by rw[oe];decide) (by rw[oe];decide),s2 I I (by rw[oe];decide) (by rw[oe];decide)⟩
