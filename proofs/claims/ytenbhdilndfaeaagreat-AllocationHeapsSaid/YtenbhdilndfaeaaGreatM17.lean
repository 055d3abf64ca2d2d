import Derived.Test.YtenbhdilndfaeaaGreatM16
set_option maxRecDepth 100000
set_option maxHeartbeats 0
set_option linter.all false
namespace Go.Proofs.YtenbhdilndfaeaaGreat
open Go.RowKit Go.Proofs.Tryz
variable(A:Option Addr)(l:List ByteArray)(s:ByteArray)(k:Int)(w:World)
theorem Ju{G:Prop} (h:G:=by
 go_wp2;exact JE):G:=h
def Bs(w:World)(A:Option Addr)(l:List ByteArray):Prop:=Sl w 9 1 A l.length (l.map Value.string)
def hasB(l:List ByteArray)(s:ByteArray):Bool:=l.any (λx=>x.toList==s.toList)
theorem oi(n c:Nat)(l:List ByteArray)(s:ByteArray)(w:World)(hn:l.length=n)(h:Bs w A l)(cy:n<=1000000):
 Calls prog 171 #[.slice A n c,.string s] w λe w'=>e=.returned (.bool (hasB l s))/\w=w':=by
 obtain⟨i,a⟩:∃i:Ending->World->Prop,i=λe w'=>e=.returned (.bool (hasB l s))/\w=w':=⟨_,rfl⟩
 rw[<-a];have aD:=h_ a;have a2:=h_ hn;clear a hn
 go_enter func171,ntmps171
 go_wp2
 go_loop [9] (λar=>∃k:Nat,k<=n/\ar=i_ k/\hasB l s=hasB (l.drop k) s) (λar=>n-(intOf ar).toNat)
 case atStart=>exact⟨0,N_ _,by go_num,by simp⟩
 case round=>
  obtain⟨k,hk,rfl,G⟩:=hrel;have aR:=h_ G;clear G
  by_cases aj:k<n
  .have aH:k<l.length:=by have:=a2.out;omega
   obtain⟨b,off,U,hc⟩:=h.f_ o_;subst U;have ah:=hc k (.string l[k]) (by rw[Eq,K_ aH];rfl);obtain⟨x,I⟩:=nm_ (l[k]);have M:=h_ I;rw[<-I]at ah;clear I hc;go_wp2
   .rw[aD.out];refine⟨?_,rfl⟩;rw[aR.out,X_ aH,<-M.out]
    have aq:(x.toList==s.toList)=true:=by assumption
    unfold hasB;rw[F1,aq,F7]
   .go_round
    case rel=>
     refine⟨k+1,by omega,by go_num,?_⟩;rw[aR.out,X_ aH,<-M.out]
     have aq:=by assumption
     unfold hasB;rw[F1,aq,FM]
    case measure=>simp[intOf];omega
  .go_wp2;rw[aD.out];refine⟨?_,rfl⟩;rw[aR.out,El (by have:=a2.out;omega)]
   rfl
def qM(l:List ByteArray)(s:ByteArray):List ByteArray:=if hasB l s=true then l else l++[s]
def pM(base:Nat)(w:World)(A:Option Addr)(c:Nat)(l:List ByteArray):Prop:=w.ownsRow base 9 1 (.slice A l.length c) l.length (l.map Value.string)
def Bn(base:Nat)(o:Option Nat)(l:List ByteArray)(w:World)(e:Ending)(w':World):Prop:=∃(A:Option Addr) (c:Nat),e=.returned (.slice A l.length c)/\pM base w' A c l/\Gr (ot o) w w'
theorem pM.bs{base c:Nat}{w:World}{A:Option Addr}{l:List ByteArray}(h:pM base w A c l):Bs w A l:=Sl.iG h
theorem ud(base:Nat)(A:Option Addr)(n c:Nat)(l:List ByteArray)(s:ByteArray)(w:World)(hn:l.length=n)(h:pM base w A c l)(cy:n<=100000)(hb:base<=w.heap.size):
 Calls prog 173 #[.slice A n c,.string s] w (Bn base (Value.slice A n c).ownBlock (qM l s) w):=by
 obtain⟨i2,aM,bX,cg,cp⟩:=info_parts infoStr;obtain⟨i,a⟩:=nm_ (Bn base (Value.slice A n c).ownBlock (qM l s) w);rw[<-a];have aD:=h_ a;have a2:=h_ hn
 have ao:w.ownsRow base 9 1 (.slice A n c) n (l.map Value.string):=by rw[<-hn];exact h
 have hbs:=h.bs;clear a hn h
 cases aB:hasB l s with
 |true=>
  have hc:=oi A n c l s w a2.out hbs o_;rw[aB]at hc;have aW:=h_ hc;have HA:=h_ (show qM l s=l by unfold qM;rw[Q_ aB]);clear hc aB
  go_enter func173,ntmps173
  go_wp2_with (go_at_call 171;refine aW.out.mono ?_;rintro e w'⟨rfl,rfl⟩)
  rw[aD.out];unfold Bn;rw[HA.out];exact⟨A,c,by rw[a2.out];rfl,by unfold pM;rw[a2.out];exact ao,D_ _ _⟩
 |false=>
  have hc:=oi A n c l s w a2.out hbs o_;rw[aB]at hc;have aW:=h_ hc;have HA:=h_ (show qM l s=l++[s] by unfold qM;rw[P_ (by rw[aB];decide)]);clear hc aB;have C:=iu ao ((D_ [] w).alloc (.cells #[.string s] 9))
  go_enter func173,ntmps173
  go_wp2_with (first|(go_at_call 171;refine aW.out.mono ?_;rintro e w'⟨rfl,rfl⟩)|(at_builtin;refine jU rfl _ _ _ rfl base 9 i2 _ 1 16 underlying207 aM bX cg cp rfl d_ d_ A n c _ rfl C _ 1 1 ([s].map Value.string) rfl (i5 (n:=1) (s:=1) (L_ w 9 #[.string s]) rfl) (by intro u hu;simp at hu;subst hu;rfl) o_ p_ ?_;intro ay an w2 aY bE bF))
  rw[aD.out];unfold Bn;rw[HA.out];refine⟨ay,an,by rw[H_,a2.out];rfl,?_,(((D_ _ w).alloc _).trans (Gr.iM bE))⟩;unfold pM;rw[H_,Ed,a2.out];exact aY
structure C6 where
 ex:Int
 name:Bool
 fn:Bool
 n:Bool
 op:Bool
 body:Bool
 els:Bool
def prt(k:Int):C6:=
 if k=1∨k=11 then⟨1,true,false,false,false,false,false⟩
 else if k=2 then⟨2,false,false,true,false,false,false⟩
 else if k=3 then⟨-1,true,true,false,false,false,false⟩
 else if k=4 then⟨1,false,false,false,false,true,true⟩
 else if k=5 then⟨2,true,false,false,false,true,false⟩
 else if k=6 then⟨1,false,false,false,false,true,false⟩
 else if k=7∨k=8∨k=10 then⟨1,false,false,false,false,false,false⟩
 else if k=9 then⟨0,true,false,false,false,true,true⟩
 else⟨1,true,false,false,true,false,false⟩
def C6.v(p:C6):Value:=.tuple #[i_ p.ex,.bool p.name,.bool p.fn,.bool p.n,.bool p.op,.bool p.body,.bool p.els,.bool true]
def Dz(v:Value)(w:World)(e:Ending)(w':World):Prop:=e=.returned v/\w=w'
theorem tV(h1:1<=k)(h2:k<=12):Calls prog 216 #[i_ k] w (Dz (prt k).v w):=by
 rcases(by omega:k=1∨k=2∨k=3∨k=4∨k=5∨k=6∨k=7∨k=8∨k=9∨k=10∨k=11∨k=12)with rfl|rfl|rfl|rfl|rfl|rfl|rfl|rfl|rfl|rfl|rfl|rfl
 all_goals
  clear h1 h2
  go_enter func216,ntmps216
  go_wp2;refine⟨rfl,(prt _).v,?_,rfl,rfl⟩
  kernel_rfl
theorem vi(h1:1<=k)(h2:k<=12):Calls prog 200 #[i_ k] w λe w'=>e=.returned (.bool (prt k).name)/\w=w':=by
 have aT:=h_ (tV k w h1 h2);clear h1 h2;obtain⟨p,hp⟩:=nm_ (prt k);rw[<-hp]at aT |-;clear hp;obtain⟨a,b,c,d,e,f,g⟩:=p
 go_enter func200,ntmps200
 go_wp2_with (go_at_call 216;refine aT.out.mono ?_;rintro e w'⟨rfl,rfl⟩;simp only[C6.v])
 go_ret;exact⟨rfl,rfl⟩
theorem FT.B3(f:FT):f.E.length=3:=rfl
def Au(w:World)(A:Option Addr)(fs:List FT):Prop:=Sl w 213 3 A fs.length (fs.flatMap FT.E)
theorem Au.at_{w:World}{A:Option Addr}{fs:List FT}(h:Au w A fs){k:Nat}(hk:k<fs.length):∃b off,A=some (c_ b off)/\w.cell? (c_ b (off+k*3))=some (.string fs[k].name)/\w.cell? (c_ b (off+k*3+1))=some (.slice fs[k].AP fs[k].ps.length fs[k].cP)/\w.cell? (c_ b (off+k*3+2))=some (.slice fs[k].A fs[k].bs.length fs[k].c):=by
 obtain⟨b,off,U,hc⟩:=Sl.f_ h o_;refine⟨b,off,U,?_,?_,?_⟩
 .exact hc (k*3) _ (by have:=iW FT.E 3 FT.B3 fs k 0 hk o_;rw[Fe]at this;rw[this];rfl)
 .rw[Fr];exact hc (k*3+1) _ (by rw[iW FT.E 3 FT.B3 fs k 1 hk o_];rfl)
 .rw[Fr];exact hc (k*3+2) _ (by rw[iW FT.E 3 FT.B3 fs k 2 hk o_];rfl)
def tk(s:ByteArray):List FT->Int->Int
 |[],_=> -1
 |f::l,k=>if(f.name.toList==s.toList)=true then k else tk s l (k+1)
theorem nt(n c:Nat)(fs:List FT)(s:ByteArray)(w:World)(hn:fs.length=n)(h:Au w A fs)(cy:n<=1000):
 Calls prog 170 #[.agg #[.slice A n c],.string s] w λe w'=>e=.returned (i_ (tk s fs 0))/\Gr [] w w':=by
 obtain⟨i,a⟩:∃i:Ending->World->Prop,i=λe w'=>e=.returned (i_ (tk s fs 0))/\Gr [] w w':=⟨_,rfl⟩
 rw[<-a];have aD:=h_ a;have a2:=h_ hn;clear a hn;have hB:=L_ w 150 #[.slice A n c];have aV:=(D_ [] w).alloc (.cells #[.slice A n c] 150)
 go_enter func170,ntmps170
 go_upto_region 1 with fail
 obtain⟨W,aM⟩:=nm_ (w.alloc (.cells #[.slice A n c] 150));rw[<-aM]at hB aV |-;clear aM;obtain⟨d,h2⟩:=nm_ w.heap.size;rw[<-h2]at hB |-;clear h2;have aU:=hB.f_ 0
 go_upto_region 2 with fail
 clear aU
 go_loopw [10] (λar w'=>∃k:Nat,k<=n/\ar=i_ k/\tk s fs 0=tk s (fs.drop k) k/\Gr [] w w') (λar _=>n-(intOf ar).toNat)
 case atStart=>exact⟨0,N_ _,by go_num,by simp,aV⟩
 case round=>
  obtain⟨k,hk,rfl,G,F⟩:=hrel;have aR:=h_ G;clear G aV
  by_cases aj:k<n
  .have aH:k<fs.length:=by have:=a2.out;omega
   obtain⟨b,off,U,aI,c1,an⟩:=Au.at_ (Sl.g_ h F) aH;subst U;obtain⟨x,I⟩:=nm_ (fs[k]);have M:=h_ I;rw[<-I]at aI c1 an;clear I;go_wp2
   .rw[aD.out];refine⟨?_,F.alloc _⟩;rw[aR.out,X_ aH,<-M.out]
    have aq:=by assumption
    rw[tk,Q_ aq]
    rfl
   .go_roundw
    case rel=>
     refine⟨k+1,by omega,by go_num,?_,F.alloc _⟩;rw[aR.out,X_ aH,<-M.out]
     have aq:=by assumption
     rw[tk,P_ (by rw[aq];decide)]
     rfl
    case measure=>simp[intOf];omega
  .go_wp2;rw[aD.out];refine⟨?_,F⟩;rw[aR.out,El (by have:=a2.out;omega)]
   rfl
def opWords:List ByteArray:=[{data:=#[]},{data:=#[97,100,100]},{data:=#[115,117,98]},{data:=#[109,117,108]},{data:=#[100,105,118]},{data:=#[109,105,110]},{data:=#[109,97,120]},{data:=#[97,110,100]},{data:=#[111,114]},{data:=#[120,111,114]},{data:=#[108,101,115,115]},{data:=#[101,113,117,97,108]}]
def ng:List ByteArray:=[{data:=#[110,105,108]},{data:=#[102,105,101,108,100]},{data:=#[110,101,119]},{data:=#[102,117,110,99]},{data:=#[115,101,116]},{data:=#[115,116,111,114,101]},{data:=#[99,97,108,108]},{data:=#[105,102]},{data:=#[101,108,115,101]},{data:=#[102,111,114]},{data:=#[119,104,105,108,101]},{data:=#[114,101,116,117,114,110]},{data:=#[116,104,114,111,119]},{data:=#[116,114,121]},{data:=#[99,97,116,99,104]},{data:=#[101,109,105,116]},{data:=#[97,115,107]},{data:=#[114,101,100,117,99,101]},{data:=#[101,110,100]}]
def zE:Array Value:=#[e_,.string {data:=#[97,100,100]},.string {data:=#[115,117,98]},.string {data:=#[109,117,108]},.string {data:=#[100,105,118]},.string {data:=#[109,105,110]},.string {data:=#[109,97,120]},.string {data:=#[97,110,100]},.string {data:=#[111,114]},.string {data:=#[120,111,114]},.string {data:=#[108,101,115,115]},.string {data:=#[101,113,117,97,108]}]
theorem yd:Calls prog 208 #[] w λe w'=>e=.returned (.slice (j_ w.heap.size) 12 12)/\w'=w.alloc (.cells zE 9):=by
 go_enter func208,ntmps208
 go_wp2_with fail
 go_ret;exact⟨rfl,rfl⟩
theorem vt{l:List ByteArray}{s:ByteArray}(h:hasB l s=false){k:Nat}(hk:k<l.length):(l[k].toList==s.toList)=false:=by
 unfold hasB at h;rw[List.any_eq_false]at h
 simpa using h l[k] (J_ hk)
theorem AY(h:hasB opWords s=false):Calls prog 221 #[.string s] w λe w'=>e=.returned (.tuple #[i_ 0,.bool false])/\Gr [] w w':=by
 obtain⟨i,a⟩:∃i:Ending->World->Prop,i=λe w'=>e=.returned (.tuple #[i_ 0,.bool false])/\Gr [] w w':=⟨_,rfl⟩
 rw[<-a];have aD:=h_ a;clear a;have hg:=(D_ [] w).alloc (.cells zE 9);have hb:=L_ w 9 zE
 go_enter func221,ntmps221
 go_wp2_with (go_at_call 208;refine(yd _).mono ?_;rintro e w'⟨rfl,rfl⟩)
 go_loop [8] (λar=>∃k:Nat,k<=12/\ar=i_ k) (λar=>12-(intOf ar).toNat)
 case atStart=>exact⟨0,by omega,by go_num⟩
 case round=>
  obtain⟨k,hk,rfl⟩:=hrel
  by_cases aj:k<12
  .have aH:k<opWords.length:=aj;have av:=vt h aH
   have hc:zE[k]?=some (.string opWords[k]):=by
    have:zE=(opWords.map Value.string).toArray:=rfl
    rw[this];simp[K_ aH]
   have ah:=(hb.f_ k).trans hc;obtain⟨x,I⟩:=nm_ (opWords[k]);rw[<-I]at av ah;clear I hc
   by_cases b8:0<k
   all_goals
    go_wp2;go_round
    case rel=>exact⟨k+1,by omega,by go_num⟩
    case measure=>simp[intOf];omega
  .go_wp2;rw[aD.out];exact⟨rfl,hg⟩
def zr:Array Value:=#[.string {data:=#[110,105,108]},.string {data:=#[102,105,101,108,100]},.string {data:=#[110,101,119]},.string {data:=#[102,117,110,99]},.string {data:=#[115,101,116]},.string {data:=#[115,116,111,114,101]},.string {data:=#[99,97,108,108]},.string {data:=#[105,102]},.string {data:=#[101,108,115,101]},.string {data:=#[102,111,114]},.string {data:=#[119,104,105,108,101]},.string {data:=#[114,101,116,117,114,110]},.string {data:=#[116,104,114,111,119]},.string {data:=#[116,114,121]},.string {data:=#[99,97,116,99,104]},.string {data:=#[101,109,105,116]},.string {data:=#[97,115,107]},.string {data:=#[114,101,100,117,99,101]},.string {data:=#[101,110,100]}]
theorem zt(h:hasB opWords s=false)(h2:hasB ng s=false):Calls prog 214 #[.string s] w λe w'=>e=.returned (.bool false)/\Gr [] w w':=by
 obtain⟨i,a⟩:∃i:Ending->World->Prop,i=λe w'=>e=.returned (.bool false)/\Gr [] w w':=⟨_,rfl⟩
 rw[<-a];have aD:=h_ a;clear a;have hg:=(D_ [] w).alloc (.cells zr 9);have hb:=L_ w 9 zr;obtain⟨W,aM⟩:=nm_ (w.alloc (.cells zr 9));have bl:=h_ aM;rw[<-aM]at hg hb;obtain⟨R,cn⟩:=nm_ w.heap.size;have D:=h_ cn;rw[<-cn]at hb;clear aM cn;have z:=h_ h;clear h
 go_enter func214,ntmps214
 go_upto_region 2 with fail
 rw[show w.alloc (.cells #[.string {data:=#[110,105,108]},.string {data:=#[102,105,101,108,100]},.string {data:=#[110,101,119]},.string {data:=#[102,117,110,99]},.string {data:=#[115,101,116]},.string {data:=#[115,116,111,114,101]},.string {data:=#[99,97,108,108]},.string {data:=#[105,102]},.string {data:=#[101,108,115,101]},.string {data:=#[102,111,114]},.string {data:=#[119,104,105,108,101]},.string {data:=#[114,101,116,117,114,110]},.string {data:=#[116,104,114,111,119]},.string {data:=#[116,114,121]},.string {data:=#[99,97,116,99,104]},.string {data:=#[101,109,105,116]},.string {data:=#[97,115,107]},.string {data:=#[114,101,100,117,99,101]},.string {data:=#[101,110,100]}] 9)=W from bl.out.symm,<-D.out]
 go_loop [9] (λar=>∃k:Nat,k<=19/\ar=i_ k) (λar=>19-(intOf ar).toNat)
 case atStart=>exact⟨0,by omega,by go_num⟩
 case round=>
  obtain⟨k,hk,rfl⟩:=hrel
  by_cases aj:k<19
  .have aH:k<ng.length:=aj;have av:=vt h2 aH
   have hc:zr[k]?=some (.string ng[k]):=by
    have:zr=(ng.map Value.string).toArray:=rfl
    rw[this];simp[K_ aH]
   have ah:=(hb.f_ k).trans hc;obtain⟨x,I⟩:=nm_ (ng[k]);rw[<-I]at av ah;clear I hc;exact Ju
  .go_wp2_with (go_at_call 221;refine(AY s _ z.out).mono ?_;rintro e w'⟨rfl,ad⟩)
   rw[aD.out];exact⟨rfl,hg.trans ad⟩
structure l3(s:ByteArray):Prop where
 ch:∀(k:Nat) (h:k<s.size),97<=(s[k].toNat:Int)/\(s[k].toNat:Int)<=122
 pos:0<s.size
 le:s.size<=16
 op:hasB opWords s=false
 res:hasB ng s=false
theorem nj(h:l3 s):Calls prog 197 #[.string s] w λe w'=>e=.returned (.bool true)/\Gr [] w w':=by
 obtain⟨i,a⟩:∃i:Ending->World->Prop,i=λe w'=>e=.returned (.bool true)/\Gr [] w w':=⟨_,rfl⟩
 rw[<-a];have aD:=h_ a;clear a;have b:=h.ch;have hp:=h.pos;have hl:=h.le;have z:=h_ h.op;have ap:=h_ h.res;clear h
 have cF:(s.size:Int)<=16:=by omega
 go_enter func197,ntmps197
 go_wp2
 go_loop [3] (λar=>∃k:Nat,k<=s.size/\ar=i_ k) (λar=>s.size-(intOf ar).toNat)
 case atStart=>exact⟨0,by omega,by go_num⟩
 case round=>
  obtain⟨k,hk,rfl⟩:=hrel
  by_cases aj:k<s.size
  .obtain⟨h1,h2⟩:=b k aj;clear b;exact Ju
  .go_wp2_with (go_at_call 214;refine(zt s _ z.out ap.out).mono ?_;rintro e w'⟨rfl,ad⟩)
   rw[aD.out];exact⟨rfl,ad⟩
theorem r5{s:ByteArray}(h:(s.size==1||s.size==4)=true)(hc:(s.data.toList.all λc=>decide (97<=c.toNat)&&decide (c.toNat<=122))=true)(ho:hasB opWords s=false)(hr:hasB ng s=false):l3 s:=by
 have hs:=by simpa using h
 refine⟨λk hk=>?_,by omega,by omega,ho,hr⟩
 have h1:=Ei.1 hc s[k] (by
  have:s[k]=s.data[k]'hk:=rfl
  rw[this]
  exact Array.getElem_mem_toList hk)
 simp at h1;omega
theorem nN:hasB l s=l.any (λx=>x.data.toList==s.data.toList):=by
 unfold hasB;simp only[Ft]
theorem BO:∀s∈h6,l3 s:=by
 intro s hs;simp[h6,hI]at hs
 rcases hs with rfl|rfl|rfl|rfl|rfl|rfl|rfl|rfl|rfl<;>exact r5 d_ d_ (by rw[nN];decide) (by rw[nN];decide)
theorem xt:l3 vg/\l3 pJ/\l3 pf:=⟨r5 d_ d_ (by rw[nN];decide) (by rw[nN];decide),r5 d_ d_ (by rw[nN];decide) (by rw[nN];decide),r5 d_ d_ (by rw[nN];decide) (by rw[nN];decide)⟩
end Go.Proofs.YtenbhdilndfaeaaGreat
