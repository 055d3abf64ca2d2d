import Derived.Test.YtenbhdilndfaeaaGreatM15
set_option maxRecDepth 100000
set_option maxHeartbeats 0
set_option linter.all false
namespace Go.Proofs.YtenbhdilndfaeaaGreat
open Go.RowKit Go.Proofs.Tryz
variable{w:World}{k:Nat}(A:OA)(l:QU)(s:ByteArray)
def MS{G:Prop} (h:G:=by
 go_wp2;go_round;exact⟨k+1,X,gn⟩;exact mz):G:=h
def Bs(w:World)(A:OA)(l:QU):Prop:=Sl w 9 1 A l.length (l.map Value.string)
def hasB(l:QU)(s:ByteArray):Bool:=l.any (λx=>x.toList==s.toList)
def oF(n c:Nat)(l:QU)(s:ByteArray)(w:World)(t:l.length=n)(h:Bs w A l)(C:n<=1000000):
 Calls prog 171 #[.slice A n c,.string s] w λe w'=>e=.returned (.bool (hasB l s))/\w=w':=by
 obtain⟨u,a⟩:∃u:Ending->World->Prop,u=λe w'=>e=.returned (.bool (hasB l s))/\w=w':=⟨_,rfl⟩;rw[<-a];have o:=O a;have m:=O t;clear a t;go_enter func171,ntmps171;go_wp2
 go_loop [9] (λf=>∃k:Nat,k<=n/\f=Y k/\hasB l s=hasB (l.drop k) s) (λf=>n-(intOf f).toNat)
 case atStart=>exact⟨0,L_ _,gn,H⟩
 obtain⟨k,D,rfl,j⟩:=hrel;have d:=O j;clear j;by_cases z:k<n
 .have b:k<l.length:=ov m.out;obtain⟨B,E,x,r⟩:=h.f_ X;subst x;have v:=r k (.string l[k]) (by rw[GF,K_ b];rfl);obtain⟨y,i⟩:=nm_ (l[k]);have p:=O i;rw[<-i]at v;clear i r;go_wp2
  .rw[o.out];refine⟨?_,rfl⟩;rw[d.out,R_ b,<-p.out];have g:(y.toList==s.toList)=true:=by assumption
   unfold hasB;rw[Ip,g,Iy]
  go_round
  case rel=>
   refine⟨k+1,X,gn,?_⟩;rw[d.out,R_ b,<-p.out];have g:=by assumption
   unfold hasB;rw[Ip,g,H8]
  case measure=>exact mz
 go_wp2;rw[o.out];refine⟨?_,rfl⟩;rw[d.out,GD (ov m.out)];rfl
def qY(l:QU)(s:ByteArray):List ByteArray:=if hasB l s=true then l else l++[s]
def p6(base:Nat)(w:World)(A:OA)(c:Nat)(l:QU):Prop:=w.ownsRow base 9 1 (.slice A l.length c) l.length (l.map Value.string)
def C0(base:Nat)(o:Option Nat)(l:QU)(w:World)(e:Ending)(w':World):Prop:=∃(A:OA) (c:Nat),e=.returned (.slice A l.length c)/\p6 base w' A c l/\J (oK o) w w'
def p6.bs{base c:Nat}{A:OA}{l:QU}(h:p6 base w A c l):Bs w A l:=Sl.iP h
def uR(base:Nat)(A:OA){n:Nat}(c:Nat)(l:QU)(s:ByteArray)(w:World)(i:l.length=n)(h:p6 base w A c l)(G:n<=100000)(H:base<=w.heap.size):
 Calls prog 173 #[.slice A n c,.string s] w (C0 base (Value.slice A n c).ownBlock (qY l s) w):=by
 obtain⟨D,t,z,x,B⟩:=info_parts infoStr;obtain⟨K,f⟩:=nm_ (C0 base (Value.slice A n c).ownBlock (qY l s) w);rw[<-f];have m:=O f;have b:=O i;have j:w.ownsRow base 9 1 (.slice A n c) n (l.map Value.string):=by rw[<-i];exact h
 have o:=h.bs;clear f i h;cases d:hasB l s with
 |true=>
  have a:=oF A n c l s w b.out o X;rw[d]at a;have g:=O a;have e:=O (show qY l s=l by unfold qY;rw[U_ d]);clear a d;go_enter func173,ntmps173;go_wp2_with (go_at_call 171;refine g.out.mono ?_;rintro C E⟨rfl,rfl⟩);rw[m.out];unfold C0;rw[e.out];exact⟨A,c,by rw[b.out];rfl,by unfold p6;rw[b.out];exact j,F_ _ _⟩
 |false=>
  have a:=oF A n c l s w b.out o X;rw[d]at a;have g:=O a;have e:=O (show qY l s=l++[s] by unfold qY;rw[T_ (by rw[d];decide)]);clear a d;have q:=iD j ((F_ [] w).alloc (.cells #[.string s] 9));go_enter func173,ntmps173;go_wp2_with (first|(go_at_call 171;refine g.out.mono ?_;rintro C E⟨rfl,rfl⟩)|(at_builtin;refine jZ rfl rfl base 9 D 1 16 underlying207 t z x B rfl I I A n c _ rfl q _ 1 1 ([s].map Value.string) rfl (jh (n:=1) (s:=1) (P_ w 9 #[.string s]) rfl) (by intro L p;simp at p;subst p;rfl) X p_ ?_;intro u r M v y F));rw[m.out];unfold C0;rw[e.out];refine⟨u,r,by rw[I_,b.out];rfl,?_,(((F_ _ w).alloc _).trans (J.iR y))⟩;unfold p6;rw[I_,Gd,b.out];exact v
structure EK where
 ex:Int
 name:Bool
 fn:Bool
 n:Bool
 op:Bool
 body:Bool
 els:Bool
def prt(k:Int):EK:=
 if k=1∨k=11 then⟨1,true,false,false,false,false,false⟩
 else if k=2 then⟨2,false,false,true,false,false,false⟩
 else if k=3 then⟨-1,true,true,false,false,false,false⟩
 else if k=4 then⟨1,false,false,false,false,true,true⟩
 else if k=5 then⟨2,true,false,false,false,true,false⟩
 else if k=6 then⟨1,false,false,false,false,true,false⟩
 else if k=7∨k=8∨k=10 then⟨1,false,false,false,false,false,false⟩
 else if k=9 then⟨0,true,false,false,false,true,true⟩
 else⟨1,true,false,false,true,false,false⟩
def EK.v(p:EK):Value:=.tuple #[Y p.ex,.bool p.name,.bool p.fn,.bool p.n,.bool p.op,.bool p.body,.bool p.els,.bool true]
def Fj(v:Value)(w:World)(e:Ending)(w':World):Prop:=e=.returned v/\w=w'
def uz(k:Int)(w:World)(a:1<=k)(b:k<=12):Calls prog 216 #[Y k] w (Fj (prt k).v w):=by
 rcases(by omega:k=1∨k=2∨k=3∨k=4∨k=5∨k=6∨k=7∨k=8∨k=9∨k=10∨k=11∨k=12)with rfl|rfl|rfl|rfl|rfl|rfl|rfl|rfl|rfl|rfl|rfl|rfl
 all_goals
  clear a b;go_enter func216,ntmps216;go_wp2;refine⟨rfl,(prt _).v,?_,rfl,rfl⟩
  kernel_rfl
def wu{k:Int}(b:1<=k)(c:k<=12):Calls prog 200 #[Y k] w λe w'=>e=.returned (.bool (prt k).name)/\w=w':=by
 have a:=O (uz k w b c);clear b c;obtain⟨f,d⟩:=nm_ (prt k);rw[<-d]at a |-;clear d;obtain⟨g,h,i,j,e,m,n⟩:=f
 go_enter func200,ntmps200;go_wp2_with (go_at_call 216;refine a.out.mono ?_;rintro e w'⟨rfl,rfl⟩;simp only[EK.v]);go_ret;exact Nn
def FT.DJ(f:FT):f.E.length=3:=rfl
def B1(w:World)(A:OA)(fs:QF):Prop:=Sl w 213 3 A fs.length (fs.flatMap FT.E)
def B1.at_{A:OA}{fs:QF}(h:B1 w A fs)(e:k<fs.length):∃b a,A=some (Z b a)/\w.cell? (Z b (a+k*3))=some (.string fs[k].name)/\w.cell? (Z b (a+k*3+1))=some (.slice fs[k].AP fs[k].ps.length fs[k].cP)/\w.cell? (Z b (a+k*3+2))=some (.slice fs[k].A fs[k].bs.length fs[k].c):=by
 obtain⟨b,a,f,d⟩:=Sl.f_ h X;refine⟨b,a,f,?_,?_,?_⟩;exact d (k*3) _ (by have:=ja FT.E 3 FT.DJ fs k 0 e X;rw[HC]at this;rw[this];rfl);rw[HE];exact d (k*3+1) _ (by rw[ja FT.E 3 FT.DJ fs k 1 e X];rfl);rw[HE];exact d (k*3+2) _ (by rw[ja FT.E 3 FT.DJ fs k 2 e X];rfl)
def tX(s:ByteArray):List FT->Int->Int
 |[],_=> -1
 |f::l,k=>if(f.name.toList==s.toList)=true then k else tX s l (k+1)
def nP(n c:Nat)(fs:QF)(s:ByteArray)(w:World)(y:fs.length=n)(h:B1 w A fs)(K:n<=1000):
 Calls prog 170 #[.agg #[.slice A n c],.string s] w λe w'=>e=.returned (Y (tX s fs 0))/\J [] w w':=by
 obtain⟨z,b⟩:∃z:Ending->World->Prop,z=λe w'=>e=.returned (Y (tX s fs 0))/\J [] w w':=⟨_,rfl⟩;rw[<-b];have u:=O b;have t:=O y;clear b y;have m:=P_ w 150 #[.slice A n c];have g:=(F_ [] w).alloc (.cells #[.slice A n c] 150);go_enter func170,ntmps170;go_upto_region 1 with fail;obtain⟨F,r⟩:=nm_ (w.alloc (.cells #[.slice A n c] 150));rw[<-r]at m g |-;clear r;obtain⟨q,x⟩:=nm_ w.heap.size;rw[<-x]at m |-;clear x;have C:=m.f_ 0
 go_upto_region 2 with fail;clear C;go_loopw [10] (λi w'=>∃k:Nat,k<=n/\i=Y k/\tX s fs 0=tX s (fs.drop k) k/\J [] w w') (λi _=>n-(intOf i).toNat)
 case atStart=>exact⟨0,L_ _,gn,H,g⟩
 obtain⟨k,L,rfl,p,a⟩:=hrel;have f:=O p;clear p g;by_cases G:k<n
 .have d:k<fs.length:=ov t.out;obtain⟨I,M,E,B,c1,D⟩:=B1.at_ (Sl.hF h a) d;subst E;obtain⟨N,o⟩:=nm_ (fs[k]);have v:=O o;rw[<-o]at B c1 D;clear o;go_wp2
  .rw[u.out];refine⟨?_,a.alloc _⟩;rw[f.out,R_ d,<-v.out];have j:=by assumption
   rw[tX,U_ j];rfl
  go_roundw
  case rel=>
   refine⟨k+1,X,gn,?_,a.alloc _⟩;rw[f.out,R_ d,<-v.out];have j:=by assumption
   rw[tX,T_ (by rw[j];decide)];rfl
  case measure=>exact mz
 go_wp2;rw[u.out];refine⟨?_,a⟩;rw[f.out,GD (ov t.out)];rfl
def opWords:List ByteArray:=[{data:=#[]},{data:=#[97,100,100]},{data:=#[115,117,98]},{data:=#[109,117,108]},{data:=#[100,105,118]},{data:=#[109,105,110]},{data:=#[109,97,120]},{data:=#[97,110,100]},{data:=#[111,114]},{data:=#[120,111,114]},{data:=#[108,101,115,115]},{data:=#[101,113,117,97,108]}]
def nK:List ByteArray:=[{data:=#[110,105,108]},{data:=#[102,105,101,108,100]},{data:=#[110,101,119]},{data:=#[102,117,110,99]},{data:=#[115,101,116]},{data:=#[115,116,111,114,101]},{data:=#[99,97,108,108]},{data:=#[105,102]},{data:=#[101,108,115,101]},{data:=#[102,111,114]},{data:=#[119,104,105,108,101]},{data:=#[114,101,116,117,114,110]},{data:=#[116,104,114,111,119]},{data:=#[116,114,121]},{data:=#[99,97,116,99,104]},{data:=#[101,109,105,116]},{data:=#[97,115,107]},{data:=#[114,101,100,117,99,101]},{data:=#[101,110,100]}]
def A8:Array Value:=#[e_,.string {data:=#[97,100,100]},.string {data:=#[115,117,98]},.string {data:=#[109,117,108]},.string {data:=#[100,105,118]},.string {data:=#[109,105,110]},.string {data:=#[109,97,120]},.string {data:=#[97,110,100]},.string {data:=#[111,114]},.string {data:=#[120,111,114]},.string {data:=#[108,101,115,115]},.string {data:=#[101,113,117,97,108]}]
def zp:Calls prog 208 #[] w λe w'=>e=.returned (.slice (j_ w.heap.size) 12 12)/\w'=w.alloc (.cells A8 9):=by
 go_enter func208,ntmps208;go_wp2_with fail;go_ret;exact Nn
def wB{l:QU}{s:ByteArray}(h:hasB l s=false)(a:k<l.length):(l[k].toList==s.toList)=false:=by
 unfold hasB at h;rw[List.any_eq_false]at h;simpa using h l[k] (N_ a)
def Cr(h:hasB opWords s=false):Calls prog 221 #[.string s] w λe w'=>e=.returned (.tuple #[Y 0,.bool false])/\J [] w w':=by
 obtain⟨g,a⟩:∃g:Ending->World->Prop,g=λe w'=>e=.returned (.tuple #[Y 0,.bool false])/\J [] w w':=⟨_,rfl⟩;rw[<-a];have m:=O a;clear a;have p:=(F_ [] w).alloc (.cells A8 9);have o:=P_ w 9 A8;go_enter func221,ntmps221;go_wp2_with (go_at_call 208;refine(zp).mono ?_;rintro e w'⟨rfl,rfl⟩)
 go_loop [8] (λb=>∃k:Nat,k<=12/\b=Y k) (λb=>12-(intOf b).toNat)
 case atStart=>exact⟨0,X,gn⟩
 obtain⟨k,r,rfl⟩:=hrel;by_cases i:k<12
 .have c:k<opWords.length:=i;have n:=wB h c;have d:A8[k]?=some (.string opWords[k]):=by
   have:A8=(opWords.map Value.string).toArray:=rfl;rw[this];simp[K_ c]
  have j:=(o.f_ k).trans d;obtain⟨t,f⟩:=nm_ (opWords[k]);rw[<-f]at n j;clear f d;by_cases q:0<k;all_goals
   go_wp2;go_round;exact⟨k+1,X,gn⟩;exact mz
 go_wp2;rw[m.out];exact⟨rfl,p⟩
def AU:Array Value:=#[.string {data:=#[110,105,108]},.string {data:=#[102,105,101,108,100]},.string {data:=#[110,101,119]},.string {data:=#[102,117,110,99]},.string {data:=#[115,101,116]},.string {data:=#[115,116,111,114,101]},.string {data:=#[99,97,108,108]},.string {data:=#[105,102]},.string {data:=#[101,108,115,101]},.string {data:=#[102,111,114]},.string {data:=#[119,104,105,108,101]},.string {data:=#[114,101,116,117,114,110]},.string {data:=#[116,104,114,111,119]},.string {data:=#[116,114,121]},.string {data:=#[99,97,116,99,104]},.string {data:=#[101,109,105,116]},.string {data:=#[97,115,107]},.string {data:=#[114,101,100,117,99,101]},.string {data:=#[101,110,100]}]
def AV(h:hasB opWords s=false)(y:hasB nK s=false):Calls prog 214 #[.string s] w λe w'=>e=.returned (.bool false)/\J [] w w':=by
 obtain⟨n,a⟩:∃n:Ending->World->Prop,n=λe w'=>e=.returned (.bool false)/\J [] w w':=⟨_,rfl⟩;rw[<-a];have t:=O a;clear a;have j:=(F_ [] w).alloc (.cells AU 9);have f:=P_ w 9 AU;obtain⟨p,b⟩:=nm_ (w.alloc (.cells AU 9));have v:=O b;rw[<-b]at j f;obtain⟨z,d⟩:=nm_ w.heap.size;have x:=O d;rw[<-d]at f;clear b d;have o:=O h;clear h;go_enter func214,ntmps214;go_upto_region 2 with fail;rw[show w.alloc (.cells #[.string {data:=#[110,105,108]},.string {data:=#[102,105,101,108,100]},.string {data:=#[110,101,119]},.string {data:=#[102,117,110,99]},.string {data:=#[115,101,116]},.string {data:=#[115,116,111,114,101]},.string {data:=#[99,97,108,108]},.string {data:=#[105,102]},.string {data:=#[101,108,115,101]},.string {data:=#[102,111,114]},.string {data:=#[119,104,105,108,101]},.string {data:=#[114,101,116,117,114,110]},.string {data:=#[116,104,114,111,119]},.string {data:=#[116,114,121]},.string {data:=#[99,97,116,99,104]},.string {data:=#[101,109,105,116]},.string {data:=#[97,115,107]},.string {data:=#[114,101,100,117,99,101]},.string {data:=#[101,110,100]}] 9)=p from v.out.symm,<-x.out]
 go_loop [9] (λc=>∃k:Nat,k<=19/\c=Y k) (λc=>19-(intOf c).toNat)
 case atStart=>exact⟨0,X,gn⟩
 obtain⟨k,B,rfl⟩:=hrel;by_cases q:k<19;have g:k<nK.length:=q;have u:=wB y g;have i:AU[k]?=some (.string nK[k]):=by
  have:AU=(nK.map Value.string).toArray:=rfl;rw[this];simp[K_ g]
 have r:=(f.f_ k).trans i;obtain⟨C,m⟩:=nm_ (nK[k]);rw[<-m]at u r;clear m i;exact MS;go_wp2_with (go_at_call 221;refine(Cr s o.out).mono ?_;rintro e w'⟨rfl,g⟩);rw[t.out];exact⟨rfl,j.trans g⟩
structure mA(s:ByteArray):Prop where
 ch:∀(k:Nat) (h:k<s.size),97<=(s[k].toNat:Int)/\(s[k].toNat:Int)<=122
 pos:0<s.size
 le:s.size<=16
 op:hasB opWords s=false
 res:hasB nK s=false
def nN{s:ByteArray}(h:mA s):Calls prog 197 #[.string s] w λe w'=>e=.returned (.bool true)/\J [] w w':=by
 obtain⟨d,a⟩:∃d:Ending->World->Prop,d=λe w'=>e=.returned (.bool true)/\J [] w w':=⟨_,rfl⟩;rw[<-a];have j:=O a;clear a;have c:=h.ch;have r:=h.pos;have q:=h.le;have f:=O h.op;have m:=O h.res;clear h;have n:(s.size:Int)<=16:=X;go_enter func197,ntmps197;go_wp2
 go_loop [3] (λb=>∃k:Nat,k<=s.size/\b=Y k) (λb=>s.size-(intOf b).toNat)
 case atStart=>exact⟨0,X,gn⟩
 obtain⟨k,p,rfl⟩:=hrel;by_cases i:k<s.size;obtain⟨g,o⟩:=c k i;clear c;exact MS;go_wp2_with (go_at_call 214;refine(AV s f.out m.out).mono ?_;rintro e w'⟨rfl,g⟩);rw[j.out];exact⟨rfl,g⟩
def sx{s:ByteArray}(h:(s.size==1||s.size==4)=true)(hc:(s.data.toList.all λc=>decide (97<=c.toNat)&&decide (c.toNat<=122))=true)(d:hasB opWords s=false)(e:hasB nK s=false):mA s:=by
 have f:=zu h;refine⟨λk a=>?_,X,X,d,e⟩;have b:=Gy.1 hc s[k] (by
  have:s[k]=s.data[k]'a:=rfl;rw[this];exact Array.getElem_mem_toList a)
 simp at b;omega
def n9:hasB l s=l.any (λx=>x.data.toList==s.data.toList):=by
 unfold hasB;simp only[HS]
def Du:∀s∈ig,mA s:=by
 intro s a;simp[ig,hV]at a;rcases a with rfl|rfl|rfl|rfl|rfl|rfl|rfl|rfl|rfl<;>exact sx I I (by rw[n9];decide) (by rw[n9];decide)
def yz:mA wq/\mA p4/\mA pD:=⟨sx I I (by rw[n9];decide) (by rw[n9];decide),sx I I (by rw[n9];decide) (by rw[n9];decide),sx I I (by rw[n9];decide) (by rw[n9];decide)⟩
