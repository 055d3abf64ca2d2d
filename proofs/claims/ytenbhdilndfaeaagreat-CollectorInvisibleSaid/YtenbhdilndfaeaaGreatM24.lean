import Derived.Test.YtenbhdilndfaeaaGreatM23
set_option maxRecDepth 100000
set_option maxHeartbeats 0
set_option linter.all false
namespace Go.Proofs.YtenbhdilndfaeaaGreat
open Go.RowKit Go.Proofs.Tryz
variable{w:World}{k:Nat}(A:OA)(l:List ByteArray)(s:ByteArray)
def Mm{G:Prop} (h:G:=by
 go_wp2;go_round
 case rel=>exact⟨k+1,X,gn⟩
 case measure=>exact mz):G:=h
def Bs(w:World)(A:OA)(l:List ByteArray):Prop:=Sl w 9 1 A l.length (l.map Value.string)
def hasB(l:List ByteArray)(s:ByteArray):Bool:=l.any (λx=>x.toList==s.toList)
def oC(n c:Nat)(l:List ByteArray)(s:ByteArray)(w:World)(t:l.length=n)(h:Bs w A l)(C:n<=1000000):
 Calls prog 171 #[.slice A n c,.string s] w λe w'=>e=.returned (.bool (hasB l s))/\w=w':=by
 obtain⟨u,g⟩:∃u:Ending->World->Prop,u=λe w'=>e=.returned (.bool (hasB l s))/\w=w':=⟨_,rfl⟩
 rw[<-g];have p:=U g;have o:=U t;clear g t
 go_enter func171,ntmps171
 go_wp2
 go_loop [9] (λd=>∃k:Nat,k<=n/\d=Y k/\hasB l s=hasB (l.drop k) s) (λd=>n-(intOf d).toNat)
 case atStart=>exact⟨0,N_ _,gn,J⟩
 case round=>
  obtain⟨k,D,rfl,j⟩:=hrel;have a:=U j;clear j
  by_cases z:k<n
  .have b:k<l.length:=ov o.out;obtain⟨B,E,x,r⟩:=h.f_ X;subst x;have v:=r k (.string l[k]) (by rw[Gf,K_ b];rfl);obtain⟨y,i⟩:=nm_ (l[k]);have m:=U i;rw[<-i]at v;clear i r;go_wp2
   .rw[p.out];refine⟨?_,rfl⟩;rw[a.out,Q_ b,<-m.out]
    have f:(y.toList==s.toList)=true:=by assumption
    unfold hasB;rw[H4,f,Ie]
   .go_round
    case rel=>
     refine⟨k+1,X,gn,?_⟩;rw[a.out,Q_ b,<-m.out]
     have f:=by assumption
     unfold hasB;rw[H4,f,HH]
    case measure=>exact mz
  .go_wp2;rw[p.out];refine⟨?_,rfl⟩;rw[a.out,Gb (ov o.out)]
   rfl
def qY(l:List ByteArray)(s:ByteArray):List ByteArray:=if hasB l s=true then l else l++[s]
def p2(base:Nat)(w:World)(A:OA)(c:Nat)(l:List ByteArray):Prop:=w.ownsRow base 9 1 (.slice A l.length c) l.length (l.map Value.string)
def CX(base:Nat)(o:Option Nat)(l:List ByteArray)(w:World)(e:Ending)(w':World):Prop:=∃(A:OA) (c:Nat),e=.returned (.slice A l.length c)/\p2 base w' A c l/\I (oK o) w w'
def p2.bs{base c:Nat}{A:OA}{l:List ByteArray}(h:p2 base w A c l):Bs w A l:=Sl.iR h
def uK(base:Nat)(A:OA){n:Nat}(c:Nat)(l:List ByteArray)(s:ByteArray)(w:World)(i:l.length=n)(h:p2 base w A c l)(G:n<=100000)(J:base<=w.heap.size):
 Calls prog 173 #[.slice A n c,.string s] w (CX base (Value.slice A n c).ownBlock (qY l s) w):=by
 obtain⟨D,r,y,z,B⟩:=info_parts infoStr;obtain⟨K,g⟩:=nm_ (CX base (Value.slice A n c).ownBlock (qY l s) w);rw[<-g];have m:=U g;have b:=U i
 have j:w.ownsRow base 9 1 (.slice A n c) n (l.map Value.string):=by rw[<-i];exact h
 have o:=h.bs;clear g i h
 cases d:hasB l s with
 |true=>
  have a:=oC A n c l s w b.out o X;rw[d]at a;have f:=U a;have e:=U (show qY l s=l by unfold qY;rw[U_ d]);clear a d
  go_enter func173,ntmps173
  go_wp2_with (go_at_call 171;refine f.out.mono ?_;rintro C E⟨rfl,rfl⟩)
  rw[m.out];unfold CX;rw[e.out];exact⟨A,c,by rw[b.out];rfl,by unfold p2;rw[b.out];exact j,H _ _⟩
 |false=>
  have a:=oC A n c l s w b.out o X;rw[d]at a;have f:=U a;have e:=U (show qY l s=l++[s] by unfold qY;rw[R_ (by rw[d];decide)]);clear a d;have q:=iy j ((H [] w).alloc (.cells #[.string s] 9))
  go_enter func173,ntmps173
  go_wp2_with (first|(go_at_call 171;refine f.out.mono ?_;rintro C E⟨rfl,rfl⟩)|(at_builtin;refine j7 rfl rfl base 9 D 1 16 underlying207 r y z B rfl O O A n c _ rfl q _ 1 1 ([s].map Value.string) rfl (jj (n:=1) (s:=1) (P_ w 9 #[.string s]) rfl) (by intro L p;simp at p;subst p;rfl) X p_ ?_;intro u t M v x F))
  rw[m.out];unfold CX;rw[e.out];refine⟨u,t,by rw[J_,b.out];rfl,?_,(((H _ w).alloc _).trans (I.iW x))⟩;unfold p2;rw[J_,FV,b.out];exact v
structure ED where
 ex:Int
 name:Bool
 fn:Bool
 n:Bool
 op:Bool
 body:Bool
 els:Bool
def prt(k:Int):ED:=
 if k=1∨k=11 then⟨1,true,false,false,false,false,false⟩
 else if k=2 then⟨2,false,false,true,false,false,false⟩
 else if k=3 then⟨-1,true,true,false,false,false,false⟩
 else if k=4 then⟨1,false,false,false,false,true,true⟩
 else if k=5 then⟨2,true,false,false,false,true,false⟩
 else if k=6 then⟨1,false,false,false,false,true,false⟩
 else if k=7∨k=8∨k=10 then⟨1,false,false,false,false,false,false⟩
 else if k=9 then⟨0,true,false,false,false,true,true⟩
 else⟨1,true,false,false,true,false,false⟩
def ED.v(p:ED):Value:=.tuple #[Y p.ex,.bool p.name,.bool p.fn,.bool p.n,.bool p.op,.bool p.body,.bool p.els,.bool true]
def E7(v:Value)(w:World)(e:Ending)(w':World):Prop:=e=.returned v/\w=w'
def uv(k:Int)(w:World)(a:1<=k)(b:k<=12):Calls prog 216 #[Y k] w (E7 (prt k).v w):=by
 rcases(by omega:k=1∨k=2∨k=3∨k=4∨k=5∨k=6∨k=7∨k=8∨k=9∨k=10∨k=11∨k=12)with rfl|rfl|rfl|rfl|rfl|rfl|rfl|rfl|rfl|rfl|rfl|rfl
 all_goals
  clear a b
  go_enter func216,ntmps216
  go_wp2;refine⟨rfl,(prt _).v,?_,rfl,rfl⟩
  kernel_rfl
def vV{k:Int}(b:1<=k)(c:k<=12):Calls prog 200 #[Y k] w λe w'=>e=.returned (.bool (prt k).name)/\w=w':=by
 have a:=U (uv k w b c);clear b c;obtain⟨f,d⟩:=nm_ (prt k);rw[<-d]at a |-;clear d;obtain⟨g,h,i,j,e,m,n⟩:=f
 go_enter func200,ntmps200
 go_wp2_with (go_at_call 216;refine a.out.mono ?_;rintro e w'⟨rfl,rfl⟩;simp only[ED.v])
 go_ret;exact MP
def FT.DD(f:FT):f.E.length=3:=rfl
def BZ(w:World)(A:OA)(fs:List FT):Prop:=Sl w 213 3 A fs.length (fs.flatMap FT.E)
def BZ.at_{A:OA}{fs:List FT}(h:BZ w A fs)(e:k<fs.length):∃b a,A=some (Z b a)/\w.cell? (Z b (a+k*3))=some (.string fs[k].name)/\w.cell? (Z b (a+k*3+1))=some (.slice fs[k].AP fs[k].ps.length fs[k].cP)/\w.cell? (Z b (a+k*3+2))=some (.slice fs[k].A fs[k].bs.length fs[k].c):=by
 obtain⟨b,a,f,d⟩:=Sl.f_ h X;refine⟨b,a,f,?_,?_,?_⟩
 .exact d (k*3) _ (by have:=jh FT.E 3 FT.DD fs k 0 e X;rw[Hb]at this;rw[this];rfl)
 .rw[Hl];exact d (k*3+1) _ (by rw[jh FT.E 3 FT.DD fs k 1 e X];rfl)
 .rw[Hl];exact d (k*3+2) _ (by rw[jh FT.E 3 FT.DD fs k 2 e X];rfl)
def tS(s:ByteArray):List FT->Int->Int
 |[],_=> -1
 |f::l,k=>if(f.name.toList==s.toList)=true then k else tS s l (k+1)
def nM(n c:Nat)(fs:List FT)(s:ByteArray)(w:World)(y:fs.length=n)(h:BZ w A fs)(M:n<=1000):
 Calls prog 170 #[.agg #[.slice A n c],.string s] w λe w'=>e=.returned (Y (tS s fs 0))/\I [] w w':=by
 obtain⟨z,j⟩:∃z:Ending->World->Prop,z=λe w'=>e=.returned (Y (tS s fs 0))/\I [] w w':=⟨_,rfl⟩
 rw[<-j];have v:=U j;have t:=U y;clear j y;have m:=P_ w 150 #[.slice A n c];have i:=(H [] w).alloc (.cells #[.slice A n c] 150)
 go_enter func170,ntmps170
 go_upto_region 1 with fail
 obtain⟨G,u⟩:=nm_ (w.alloc (.cells #[.slice A n c] 150));rw[<-u]at m i |-;clear u;obtain⟨P,x⟩:=nm_ w.heap.size;rw[<-x]at m |-;clear x;have C:=m.f_ 0
 go_upto_region 2 with fail
 clear C
 go_loopw [10] (λf w'=>∃k:Nat,k<=n/\f=Y k/\tS s fs 0=tS s (fs.drop k) k/\I [] w w') (λf _=>n-(intOf f).toNat)
 case atStart=>exact⟨0,N_ _,gn,J,i⟩
 case round=>
  obtain⟨k,N,rfl,p,a⟩:=hrel;have b:=U p;clear p i
  by_cases K:k<n
  .have d:k<fs.length:=ov t.out;obtain⟨L,O,F,B,E,D⟩:=BZ.at_ (Sl.hF h a) d;subst F;obtain⟨Q,o⟩:=nm_ (fs[k]);have r:=U o;rw[<-o]at B E D;clear o;go_wp2
   .rw[v.out];refine⟨?_,a.alloc _⟩;rw[b.out,Q_ d,<-r.out]
    have g:=by assumption
    rw[tS,U_ g]
    rfl
   .go_roundw
    case rel=>
     refine⟨k+1,X,gn,?_,a.alloc _⟩;rw[b.out,Q_ d,<-r.out]
     have g:=by assumption
     rw[tS,R_ (by rw[g];decide)]
     rfl
    case measure=>exact mz
  .go_wp2;rw[v.out];refine⟨?_,a⟩;rw[b.out,Gb (ov t.out)]
   rfl
def opWords:List ByteArray:=[{data:=#[]},{data:=#[97,100,100]},{data:=#[115,117,98]},{data:=#[109,117,108]},{data:=#[100,105,118]},{data:=#[109,105,110]},{data:=#[109,97,120]},{data:=#[97,110,100]},{data:=#[111,114]},{data:=#[120,111,114]},{data:=#[108,101,115,115]},{data:=#[101,113,117,97,108]}]
def nH:List ByteArray:=[{data:=#[110,105,108]},{data:=#[102,105,101,108,100]},{data:=#[110,101,119]},{data:=#[102,117,110,99]},{data:=#[115,101,116]},{data:=#[115,116,111,114,101]},{data:=#[99,97,108,108]},{data:=#[105,102]},{data:=#[101,108,115,101]},{data:=#[102,111,114]},{data:=#[119,104,105,108,101]},{data:=#[114,101,116,117,114,110]},{data:=#[116,104,114,111,119]},{data:=#[116,114,121]},{data:=#[99,97,116,99,104]},{data:=#[101,109,105,116]},{data:=#[97,115,107]},{data:=#[114,101,100,117,99,101]},{data:=#[101,110,100]}]
def A0:Array Value:=#[e_,.string {data:=#[97,100,100]},.string {data:=#[115,117,98]},.string {data:=#[109,117,108]},.string {data:=#[100,105,118]},.string {data:=#[109,105,110]},.string {data:=#[109,97,120]},.string {data:=#[97,110,100]},.string {data:=#[111,114]},.string {data:=#[120,111,114]},.string {data:=#[108,101,115,115]},.string {data:=#[101,113,117,97,108]}]
def ze:Calls prog 208 #[] w λe w'=>e=.returned (.slice (j_ w.heap.size) 12 12)/\w'=w.alloc (.cells A0 9):=by
 go_enter func208,ntmps208
 go_wp2_with fail
 go_ret;exact MP
def v8{l:List ByteArray}{s:ByteArray}(h:hasB l s=false)(a:k<l.length):(l[k].toList==s.toList)=false:=by
 unfold hasB at h;rw[List.any_eq_false]at h
 simpa using h l[k] (O_ a)
def Cr(h:hasB opWords s=false):Calls prog 221 #[.string s] w λe w'=>e=.returned (.tuple #[Y 0,.bool false])/\I [] w w':=by
 obtain⟨g,b⟩:∃g:Ending->World->Prop,g=λe w'=>e=.returned (.tuple #[Y 0,.bool false])/\I [] w w':=⟨_,rfl⟩
 rw[<-b];have m:=U b;clear b;have p:=(H [] w).alloc (.cells A0 9);have o:=P_ w 9 A0
 go_enter func221,ntmps221
 go_wp2_with (go_at_call 208;refine(ze).mono ?_;rintro e w'⟨rfl,rfl⟩)
 go_loop [8] (λa=>∃k:Nat,k<=12/\a=Y k) (λa=>12-(intOf a).toNat)
 case atStart=>exact⟨0,X,gn⟩
 case round=>
  obtain⟨k,r,rfl⟩:=hrel
  by_cases j:k<12
  .have c:k<opWords.length:=j;have n:=v8 h c
   have d:A0[k]?=some (.string opWords[k]):=by
    have:A0=(opWords.map Value.string).toArray:=rfl
    rw[this];simp[K_ c]
   have i:=(o.f_ k).trans d;obtain⟨t,f⟩:=nm_ (opWords[k]);rw[<-f]at n i;clear f d
   by_cases q:0<k
   all_goals
    go_wp2;go_round
    case rel=>exact⟨k+1,X,gn⟩
    case measure=>exact mz
  .go_wp2;rw[m.out];exact⟨rfl,p⟩
def AJ:Array Value:=#[.string {data:=#[110,105,108]},.string {data:=#[102,105,101,108,100]},.string {data:=#[110,101,119]},.string {data:=#[102,117,110,99]},.string {data:=#[115,101,116]},.string {data:=#[115,116,111,114,101]},.string {data:=#[99,97,108,108]},.string {data:=#[105,102]},.string {data:=#[101,108,115,101]},.string {data:=#[102,111,114]},.string {data:=#[119,104,105,108,101]},.string {data:=#[114,101,116,117,114,110]},.string {data:=#[116,104,114,111,119]},.string {data:=#[116,114,121]},.string {data:=#[99,97,116,99,104]},.string {data:=#[101,109,105,116]},.string {data:=#[97,115,107]},.string {data:=#[114,101,100,117,99,101]},.string {data:=#[101,110,100]}]
def AK(h:hasB opWords s=false)(y:hasB nH s=false):Calls prog 214 #[.string s] w λe w'=>e=.returned (.bool false)/\I [] w w':=by
 obtain⟨n,d⟩:∃n:Ending->World->Prop,n=λe w'=>e=.returned (.bool false)/\I [] w w':=⟨_,rfl⟩
 rw[<-d];have u:=U d;clear d;have j:=(H [] w).alloc (.cells AJ 9);have f:=P_ w 9 AJ;obtain⟨q,a⟩:=nm_ (w.alloc (.cells AJ 9));have x:=U a;rw[<-a]at j f;obtain⟨z,c⟩:=nm_ w.heap.size;have r:=U c;rw[<-c]at f;clear a c;have o:=U h;clear h
 go_enter func214,ntmps214
 go_upto_region 2 with fail
 rw[show w.alloc (.cells #[.string {data:=#[110,105,108]},.string {data:=#[102,105,101,108,100]},.string {data:=#[110,101,119]},.string {data:=#[102,117,110,99]},.string {data:=#[115,101,116]},.string {data:=#[115,116,111,114,101]},.string {data:=#[99,97,108,108]},.string {data:=#[105,102]},.string {data:=#[101,108,115,101]},.string {data:=#[102,111,114]},.string {data:=#[119,104,105,108,101]},.string {data:=#[114,101,116,117,114,110]},.string {data:=#[116,104,114,111,119]},.string {data:=#[116,114,121]},.string {data:=#[99,97,116,99,104]},.string {data:=#[101,109,105,116]},.string {data:=#[97,115,107]},.string {data:=#[114,101,100,117,99,101]},.string {data:=#[101,110,100]}] 9)=q from x.out.symm,<-r.out]
 go_loop [9] (λb=>∃k:Nat,k<=19/\b=Y k) (λb=>19-(intOf b).toNat)
 case atStart=>exact⟨0,X,gn⟩
 case round=>
  obtain⟨k,B,rfl⟩:=hrel
  by_cases t:k<19
  .have g:k<nH.length:=t;have v:=v8 y g
   have i:AJ[k]?=some (.string nH[k]):=by
    have:AJ=(nH.map Value.string).toArray:=rfl
    rw[this];simp[K_ g]
   have p:=(f.f_ k).trans i;obtain⟨C,m⟩:=nm_ (nH[k]);rw[<-m]at v p;clear m i;exact Mm
  .go_wp2_with (go_at_call 221;refine(Cr s o.out).mono ?_;rintro e w'⟨rfl,g⟩)
   rw[u.out];exact⟨rfl,j.trans g⟩
structure mv(s:ByteArray):Prop where
 ch:∀(k:Nat) (h:k<s.size),97<=(s[k].toNat:Int)/\(s[k].toNat:Int)<=122
 pos:0<s.size
 le:s.size<=16
 op:hasB opWords s=false
 res:hasB nH s=false
def nK{s:ByteArray}(h:mv s):Calls prog 197 #[.string s] w λe w'=>e=.returned (.bool true)/\I [] w w':=by
 obtain⟨d,b⟩:∃d:Ending->World->Prop,d=λe w'=>e=.returned (.bool true)/\I [] w w':=⟨_,rfl⟩
 rw[<-b];have j:=U b;clear b;have c:=h.ch;have r:=h.pos;have q:=h.le;have f:=U h.op;have m:=U h.res;clear h;have n:(s.size:Int)<=16:=X
 go_enter func197,ntmps197
 go_wp2
 go_loop [3] (λa=>∃k:Nat,k<=s.size/\a=Y k) (λa=>s.size-(intOf a).toNat)
 case atStart=>exact⟨0,X,gn⟩
 case round=>
  obtain⟨k,p,rfl⟩:=hrel
  by_cases i:k<s.size
  .obtain⟨g,o⟩:=c k i;clear c;exact Mm
  .go_wp2_with (go_at_call 214;refine(AK s f.out m.out).mono ?_;rintro e w'⟨rfl,g⟩)
   rw[j.out];exact⟨rfl,g⟩
def sw{s:ByteArray}(h:(s.size==1||s.size==4)=true)(hc:(s.data.toList.all λc=>decide (97<=c.toNat)&&decide (c.toNat<=122))=true)(d:hasB opWords s=false)(e:hasB nH s=false):mv s:=by
 have f:=zu h;refine⟨λk a=>?_,X,X,d,e⟩
 have b:=F4.1 hc s[k] (by
  have:s[k]=s.data[k]'a:=rfl
  rw[this]
  exact Array.getElem_mem_toList a)
 simp at b;omega
def nZ:hasB l s=l.any (λx=>x.data.toList==s.data.toList):=by
 unfold hasB;simp only[Hn]
def Do:∀s∈ig,mv s:=by
 intro s a;simp[ig,hU]at a
 rcases a with rfl|rfl|rfl|rfl|rfl|rfl|rfl|rfl|rfl<;>exact sw O O (by rw[nZ];decide) (by rw[nZ];decide)
def yl:mv vT/\mv pX/\mv pz:=⟨sw O O (by rw[nZ];decide) (by rw[nZ];decide),sw O O (by rw[nZ];decide) (by rw[nZ];decide),sw O O (by rw[nZ];decide) (by rw[nZ];decide)⟩
