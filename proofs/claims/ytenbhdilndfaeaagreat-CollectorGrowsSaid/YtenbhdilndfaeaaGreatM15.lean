import Derived.Test.YtenbhdilndfaeaaGreatM14
set_option maxRecDepth 100000
set_option maxHeartbeats 0
set_option linter.all false
namespace Go.Proofs.YtenbhdilndfaeaaGreat
open Go.RowKit Go.Proofs.Tryz
variable(A:OA)(l:List ByteArray)(s:ByteArray)(k:Int)(w:World)
theorem Le{G:Prop} (h:G:=by
 go_wp2;go_round
 case rel=>exact⟨k+1,o_,gn⟩
 case measure=>exact mz):G:=h
def Bs(w:World)(A:OA)(l:List ByteArray):Prop:=Sl w 9 1 A l.length (l.map Value.string)
def hasB(l:List ByteArray)(s:ByteArray):Bool:=l.any (λx=>x.toList==s.toList)
theorem oq(n c:Nat)(l:List ByteArray)(s:ByteArray)(w:World)(hn:l.length=n)(h:Bs w A l)(ce:n<=1000000):
 Calls prog 171 #[.slice A n c,.string s] w λe w'=>e=.returned (.bool (hasB l s))/\w=w':=by
 obtain⟨i,f⟩:∃i:Ending->World->Prop,i=λe w'=>e=.returned (.bool (hasB l s))/\w=w':=⟨_,rfl⟩
 rw[<-f];have ak:=h_ f;have aW:=h_ hn;clear f hn
 go_enter func171,ntmps171
 go_wp2
 go_loop [9] (λap=>∃k:Nat,k<=n/\ap=i_ k/\hasB l s=hasB (l.drop k) s) (λap=>n-(intOf ap).toNat)
 case atStart=>exact⟨0,O_ _,gn,s_⟩
 case round=>
  obtain⟨k,hk,rfl,G⟩:=hrel;have aI:=h_ G;clear G
  by_cases ag:k<n
  .have az:k<l.length:=ov aW.out;obtain⟨b,off,hA,hc⟩:=h.f_ o_;subst hA;have ad:=hc k (.string l[k]) (by rw[E7,M_ az];rfl);obtain⟨x,hx⟩:=nm_ (l[k]);have bl:=h_ hx;rw[<-hx]at ad;clear hx hc;go_wp2
   .rw[ak.out];refine⟨?_,rfl⟩;rw[aI.out,R_ az,<-bl.out]
    have am:(x.toList==s.toList)=true:=by assumption
    unfold hasB;rw[GY,am,G6]
   .go_round
    case rel=>
     refine⟨k+1,o_,gn,?_⟩;rw[aI.out,R_ az,<-bl.out]
     have am:=by assumption
     unfold hasB;rw[GY,am,Gp]
    case measure=>exact mz
  .go_wp2;rw[ak.out];refine⟨?_,rfl⟩;rw[aI.out,E3 (ov aW.out)]
   rfl
def qO(l:List ByteArray)(s:ByteArray):List ByteArray:=if hasB l s=true then l else l++[s]
def pS(base:Nat)(w:World)(A:OA)(c:Nat)(l:List ByteArray):Prop:=w.ownsRow base 9 1 (.slice A l.length c) l.length (l.map Value.string)
def BW(base:Nat)(o:Option Nat)(l:List ByteArray)(w:World)(e:Ending)(w':World):Prop:=∃(A:OA) (c:Nat),e=.returned (.slice A l.length c)/\pS base w' A c l/\Gr (oA o) w w'
theorem pS.bs{base c:Nat}{w:World}{A:OA}{l:List ByteArray}(h:pS base w A c l):Bs w A l:=Sl.iT h
theorem ut(base:Nat)(A:OA)(n c:Nat)(l:List ByteArray)(s:ByteArray)(w:World)(hn:l.length=n)(h:pS base w A c l)(ce:n<=100000)(hb:base<=w.heap.size):
 Calls prog 173 #[.slice A n c,.string s] w (BW base (Value.slice A n c).ownBlock (qO l s) w):=by
 obtain⟨i2,aE,bP,ck,ct⟩:=info_parts infoStr;obtain⟨i,f⟩:=nm_ (BW base (Value.slice A n c).ownBlock (qO l s) w);rw[<-f];have ak:=h_ f;have aW:=h_ hn
 have aF:w.ownsRow base 9 1 (.slice A n c) n (l.map Value.string):=by rw[<-hn];exact h
 have hbs:=h.bs;clear f hn h
 cases ay:hasB l s with
 |true=>
  have hc:=oq A n c l s w aW.out hbs o_;rw[ay]at hc;have aK:=h_ hc;have HA:=h_ (show qO l s=l by unfold qO;rw[T_ ay]);clear hc ay
  go_enter func173,ntmps173
  go_wp2_with (go_at_call 171;refine aK.out.mono ?_;rintro e w'⟨rfl,rfl⟩)
  rw[ak.out];unfold BW;rw[HA.out];exact⟨A,c,by rw[aW.out];rfl,by unfold pS;rw[aW.out];exact aF,F_ _ _⟩
 |false=>
  have hc:=oq A n c l s w aW.out hbs o_;rw[ay]at hc;have aK:=h_ hc;have HA:=h_ (show qO l s=l++[s] by unfold qO;rw[Q_ (by rw[ay];decide)]);clear hc ay;have z:=iK aF ((F_ [] w).alloc (.cells #[.string s] 9))
  go_enter func173,ntmps173
  go_wp2_with (first|(go_at_call 171;refine aK.out.mono ?_;rintro e w'⟨rfl,rfl⟩)|(at_builtin;refine j4 rfl _ _ _ rfl base 9 i2 _ 1 16 underlying207 aE bP ck ct rfl d_ d_ A n c _ rfl z _ 1 1 ([s].map Value.string) rfl (jj (n:=1) (s:=1) (P_ w 9 #[.string s]) rfl) (by intro u hu;simp at hu;subst hu;rfl) o_ p_ ?_;intro av ai w2 aq bC bw))
  rw[ak.out];unfold BW;rw[HA.out];refine⟨av,ai,by rw[J_,aW.out];rfl,?_,(((F_ _ w).alloc _).trans (Gr.iX bC))⟩;unfold pS;rw[J_,EL,aW.out];exact aq
structure DG where
 ex:Int
 name:Bool
 fn:Bool
 n:Bool
 op:Bool
 body:Bool
 els:Bool
def prt(k:Int):DG:=
 if k=1∨k=11 then⟨1,true,false,false,false,false,false⟩
 else if k=2 then⟨2,false,false,true,false,false,false⟩
 else if k=3 then⟨-1,true,true,false,false,false,false⟩
 else if k=4 then⟨1,false,false,false,false,true,true⟩
 else if k=5 then⟨2,true,false,false,false,true,false⟩
 else if k=6 then⟨1,false,false,false,false,true,false⟩
 else if k=7∨k=8∨k=10 then⟨1,false,false,false,false,false,false⟩
 else if k=9 then⟨0,true,false,false,false,true,true⟩
 else⟨1,true,false,false,true,false,false⟩
def DG.v(p:DG):Value:=.tuple #[i_ p.ex,.bool p.name,.bool p.fn,.bool p.n,.bool p.op,.bool p.body,.bool p.els,.bool true]
def D4(v:Value)(w:World)(e:Ending)(w':World):Prop:=e=.returned v/\w=w'
theorem uc(h1:1<=k)(h2:k<=12):Calls prog 216 #[i_ k] w (D4 (prt k).v w):=by
 rcases(by omega:k=1∨k=2∨k=3∨k=4∨k=5∨k=6∨k=7∨k=8∨k=9∨k=10∨k=11∨k=12)with rfl|rfl|rfl|rfl|rfl|rfl|rfl|rfl|rfl|rfl|rfl|rfl
 all_goals
  clear h1 h2
  go_enter func216,ntmps216
  go_wp2;refine⟨rfl,(prt _).v,?_,rfl,rfl⟩
  kernel_rfl
theorem vF(h1:1<=k)(h2:k<=12):Calls prog 200 #[i_ k] w λe w'=>e=.returned (.bool (prt k).name)/\w=w':=by
 have aR:=h_ (uc k w h1 h2);clear h1 h2;obtain⟨p,hp⟩:=nm_ (prt k);rw[<-hp]at aR |-;clear hp;obtain⟨a,b,c,d,e,f,g⟩:=p
 go_enter func200,ntmps200
 go_wp2_with (go_at_call 216;refine aR.out.mono ?_;rintro e w'⟨rfl,rfl⟩;simp only[DG.v])
 go_ret;exact LN
theorem FT.CD(f:FT):f.E.length=3:=rfl
def A6(w:World)(A:OA)(fs:List FT):Prop:=Sl w 213 3 A fs.length (fs.flatMap FT.E)
theorem A6.at_{w:World}{A:OA}{fs:List FT}(h:A6 w A fs){k:Nat}(hk:k<fs.length):∃b off,A=some (c_ b off)/\w.cell? (c_ b (off+k*3))=some (.string fs[k].name)/\w.cell? (c_ b (off+k*3+1))=some (.slice fs[k].AP fs[k].ps.length fs[k].cP)/\w.cell? (c_ b (off+k*3+2))=some (.slice fs[k].A fs[k].bs.length fs[k].c):=by
 obtain⟨b,off,hA,hc⟩:=Sl.f_ h o_;refine⟨b,off,hA,?_,?_,?_⟩
 .exact hc (k*3) _ (by have:=jh FT.E 3 FT.CD fs k 0 hk o_;rw[FV]at this;rw[this];rfl)
 .rw[Gd];exact hc (k*3+1) _ (by rw[jh FT.E 3 FT.CD fs k 1 hk o_];rfl)
 .rw[Gd];exact hc (k*3+2) _ (by rw[jh FT.E 3 FT.CD fs k 2 hk o_];rfl)
def tF(s:ByteArray):List FT->Int->Int
 |[],_=> -1
 |f::l,k=>if(f.name.toList==s.toList)=true then k else tF s l (k+1)
theorem nD(n c:Nat)(fs:List FT)(s:ByteArray)(w:World)(hn:fs.length=n)(h:A6 w A fs)(ce:n<=1000):
 Calls prog 170 #[.agg #[.slice A n c],.string s] w λe w'=>e=.returned (i_ (tF s fs 0))/\Gr [] w w':=by
 obtain⟨i,f⟩:∃i:Ending->World->Prop,i=λe w'=>e=.returned (i_ (tF s fs 0))/\Gr [] w w':=⟨_,rfl⟩
 rw[<-f];have ak:=h_ f;have aW:=h_ hn;clear f hn;have hB:=P_ w 150 #[.slice A n c];have a2:=(F_ [] w).alloc (.cells #[.slice A n c] 150)
 go_enter func170,ntmps170
 go_upto_region 1 with fail
 obtain⟨W,aE⟩:=nm_ (w.alloc (.cells #[.slice A n c] 150));rw[<-aE]at hB a2 |-;clear aE;obtain⟨C,h2⟩:=nm_ w.heap.size;rw[<-h2]at hB |-;clear h2;have aQ:=hB.f_ 0
 go_upto_region 2 with fail
 clear aQ
 go_loopw [10] (λap w'=>∃k:Nat,k<=n/\ap=i_ k/\tF s fs 0=tF s (fs.drop k) k/\Gr [] w w') (λap _=>n-(intOf ap).toNat)
 case atStart=>exact⟨0,O_ _,gn,s_,a2⟩
 case round=>
  obtain⟨k,hk,rfl,G,F⟩:=hrel;have aI:=h_ G;clear G a2
  by_cases ag:k<n
  .have az:k<fs.length:=ov aW.out;obtain⟨b,off,hA,aw,c1,ai⟩:=A6.at_ (Sl.hG h F) az;subst hA;obtain⟨x,hx⟩:=nm_ (fs[k]);have bl:=h_ hx;rw[<-hx]at aw c1 ai;clear hx;go_wp2
   .rw[ak.out];refine⟨?_,F.alloc _⟩;rw[aI.out,R_ az,<-bl.out]
    have am:=by assumption
    rw[tF,T_ am]
    rfl
   .go_roundw
    case rel=>
     refine⟨k+1,o_,gn,?_,F.alloc _⟩;rw[aI.out,R_ az,<-bl.out]
     have am:=by assumption
     rw[tF,Q_ (by rw[am];decide)]
     rfl
    case measure=>exact mz
  .go_wp2;rw[ak.out];refine⟨?_,F⟩;rw[aI.out,E3 (ov aW.out)]
   rfl
def opWords:List ByteArray:=[{data:=#[]},{data:=#[97,100,100]},{data:=#[115,117,98]},{data:=#[109,117,108]},{data:=#[100,105,118]},{data:=#[109,105,110]},{data:=#[109,97,120]},{data:=#[97,110,100]},{data:=#[111,114]},{data:=#[120,111,114]},{data:=#[108,101,115,115]},{data:=#[101,113,117,97,108]}]
def ny:List ByteArray:=[{data:=#[110,105,108]},{data:=#[102,105,101,108,100]},{data:=#[110,101,119]},{data:=#[102,117,110,99]},{data:=#[115,101,116]},{data:=#[115,116,111,114,101]},{data:=#[99,97,108,108]},{data:=#[105,102]},{data:=#[101,108,115,101]},{data:=#[102,111,114]},{data:=#[119,104,105,108,101]},{data:=#[114,101,116,117,114,110]},{data:=#[116,104,114,111,119]},{data:=#[116,114,121]},{data:=#[99,97,116,99,104]},{data:=#[101,109,105,116]},{data:=#[97,115,107]},{data:=#[114,101,100,117,99,101]},{data:=#[101,110,100]}]
def Ag:Array Value:=#[e_,.string {data:=#[97,100,100]},.string {data:=#[115,117,98]},.string {data:=#[109,117,108]},.string {data:=#[100,105,118]},.string {data:=#[109,105,110]},.string {data:=#[109,97,120]},.string {data:=#[97,110,100]},.string {data:=#[111,114]},.string {data:=#[120,111,114]},.string {data:=#[108,101,115,115]},.string {data:=#[101,113,117,97,108]}]
theorem yL:Calls prog 208 #[] w λe w'=>e=.returned (.slice (j_ w.heap.size) 12 12)/\w'=w.alloc (.cells Ag 9):=by
 go_enter func208,ntmps208
 go_wp2_with fail
 go_ret;exact LN
theorem vN{l:List ByteArray}{s:ByteArray}(h:hasB l s=false){k:Nat}(hk:k<l.length):(l[k].toList==s.toList)=false:=by
 unfold hasB at h;rw[List.any_eq_false]at h
 simpa using h l[k] (N_ hk)
theorem Bv(h:hasB opWords s=false):Calls prog 221 #[.string s] w λe w'=>e=.returned (.tuple #[i_ 0,.bool false])/\Gr [] w w':=by
 obtain⟨i,f⟩:∃i:Ending->World->Prop,i=λe w'=>e=.returned (.tuple #[i_ 0,.bool false])/\Gr [] w w':=⟨_,rfl⟩
 rw[<-f];have ak:=h_ f;clear f;have hg:=(F_ [] w).alloc (.cells Ag 9);have hb:=P_ w 9 Ag
 go_enter func221,ntmps221
 go_wp2_with (go_at_call 208;refine(yL _).mono ?_;rintro e w'⟨rfl,rfl⟩)
 go_loop [8] (λap=>∃k:Nat,k<=12/\ap=i_ k) (λap=>12-(intOf ap).toNat)
 case atStart=>exact⟨0,o_,gn⟩
 case round=>
  obtain⟨k,hk,rfl⟩:=hrel
  by_cases ag:k<12
  .have az:k<opWords.length:=ag;have ao:=vN h az
   have hc:Ag[k]?=some (.string opWords[k]):=by
    have:Ag=(opWords.map Value.string).toArray:=rfl
    rw[this];simp[M_ az]
   have ad:=(hb.f_ k).trans hc;obtain⟨x,hx⟩:=nm_ (opWords[k]);rw[<-hx]at ao ad;clear hx hc
   by_cases b9:0<k
   all_goals
    go_wp2;go_round
    case rel=>exact⟨k+1,o_,gn⟩
    case measure=>exact mz
  .go_wp2;rw[ak.out];exact⟨rfl,hg⟩
def zZ:Array Value:=#[.string {data:=#[110,105,108]},.string {data:=#[102,105,101,108,100]},.string {data:=#[110,101,119]},.string {data:=#[102,117,110,99]},.string {data:=#[115,101,116]},.string {data:=#[115,116,111,114,101]},.string {data:=#[99,97,108,108]},.string {data:=#[105,102]},.string {data:=#[101,108,115,101]},.string {data:=#[102,111,114]},.string {data:=#[119,104,105,108,101]},.string {data:=#[114,101,116,117,114,110]},.string {data:=#[116,104,114,111,119]},.string {data:=#[116,114,121]},.string {data:=#[99,97,116,99,104]},.string {data:=#[101,109,105,116]},.string {data:=#[97,115,107]},.string {data:=#[114,101,100,117,99,101]},.string {data:=#[101,110,100]}]
theorem z1(h:hasB opWords s=false)(h2:hasB ny s=false):Calls prog 214 #[.string s] w λe w'=>e=.returned (.bool false)/\Gr [] w w':=by
 obtain⟨i,f⟩:∃i:Ending->World->Prop,i=λe w'=>e=.returned (.bool false)/\Gr [] w w':=⟨_,rfl⟩
 rw[<-f];have ak:=h_ f;clear f;have hg:=(F_ [] w).alloc (.cells zZ 9);have hb:=P_ w 9 zZ;obtain⟨W,aE⟩:=nm_ (w.alloc (.cells zZ 9));have bP:=h_ aE;rw[<-aE]at hg hb;obtain⟨R,cw⟩:=nm_ w.heap.size;have bg:=h_ cw;rw[<-cw]at hb;clear aE cw;have D:=h_ h;clear h
 go_enter func214,ntmps214
 go_upto_region 2 with fail
 rw[show w.alloc (.cells #[.string {data:=#[110,105,108]},.string {data:=#[102,105,101,108,100]},.string {data:=#[110,101,119]},.string {data:=#[102,117,110,99]},.string {data:=#[115,101,116]},.string {data:=#[115,116,111,114,101]},.string {data:=#[99,97,108,108]},.string {data:=#[105,102]},.string {data:=#[101,108,115,101]},.string {data:=#[102,111,114]},.string {data:=#[119,104,105,108,101]},.string {data:=#[114,101,116,117,114,110]},.string {data:=#[116,104,114,111,119]},.string {data:=#[116,114,121]},.string {data:=#[99,97,116,99,104]},.string {data:=#[101,109,105,116]},.string {data:=#[97,115,107]},.string {data:=#[114,101,100,117,99,101]},.string {data:=#[101,110,100]}] 9)=W from bP.out.symm,<-bg.out]
 go_loop [9] (λap=>∃k:Nat,k<=19/\ap=i_ k) (λap=>19-(intOf ap).toNat)
 case atStart=>exact⟨0,o_,gn⟩
 case round=>
  obtain⟨k,hk,rfl⟩:=hrel
  by_cases ag:k<19
  .have az:k<ny.length:=ag;have ao:=vN h2 az
   have hc:zZ[k]?=some (.string ny[k]):=by
    have:zZ=(ny.map Value.string).toArray:=rfl
    rw[this];simp[M_ az]
   have ad:=(hb.f_ k).trans hc;obtain⟨x,hx⟩:=nm_ (ny[k]);rw[<-hx]at ao ad;clear hx hc;exact Le
  .go_wp2_with (go_at_call 221;refine(Bv s _ D.out).mono ?_;rintro e w'⟨rfl,J⟩)
   rw[ak.out];exact⟨rfl,hg.trans J⟩
structure mg(s:ByteArray):Prop where
 ch:∀(k:Nat) (h:k<s.size),97<=(s[k].toNat:Int)/\(s[k].toNat:Int)<=122
 pos:0<s.size
 le:s.size<=16
 op:hasB opWords s=false
 res:hasB ny s=false
theorem nB(h:mg s):Calls prog 197 #[.string s] w λe w'=>e=.returned (.bool true)/\Gr [] w w':=by
 obtain⟨i,f⟩:∃i:Ending->World->Prop,i=λe w'=>e=.returned (.bool true)/\Gr [] w w':=⟨_,rfl⟩
 rw[<-f];have ak:=h_ f;clear f;have a:=h.ch;have hp:=h.pos;have hl:=h.le;have D:=h_ h.op;have bG:=h_ h.res;clear h;have ca:(s.size:Int)<=16:=o_
 go_enter func197,ntmps197
 go_wp2
 go_loop [3] (λap=>∃k:Nat,k<=s.size/\ap=i_ k) (λap=>s.size-(intOf ap).toNat)
 case atStart=>exact⟨0,o_,gn⟩
 case round=>
  obtain⟨k,hk,rfl⟩:=hrel
  by_cases ag:k<s.size
  .obtain⟨h1,h2⟩:=a k ag;clear a;exact Le
  .go_wp2_with (go_at_call 214;refine(z1 s _ D.out bG.out).mono ?_;rintro e w'⟨rfl,J⟩)
   rw[ak.out];exact⟨rfl,J⟩
theorem sf{s:ByteArray}(h:(s.size==1||s.size==4)=true)(hc:(s.data.toList.all λc=>decide (97<=c.toNat)&&decide (c.toNat<=122))=true)(ho:hasB opWords s=false)(hr:hasB ny s=false):mg s:=by
 have hs:=zu h;refine⟨λk hk=>?_,o_,o_,ho,hr⟩
 have h1:=EV.1 hc s[k] (by
  have:s[k]=s.data[k]'hk:=rfl
  rw[this]
  exact Array.getElem_mem_toList hk)
 simp at h1;omega
theorem nR:hasB l s=l.any (λx=>x.data.toList==s.data.toList):=by
 unfold hasB;simp only[F4]
theorem Ck:∀s∈ig,mg s:=by
 intro s hs;simp[ig,hV]at hs
 rcases hs with rfl|rfl|rfl|rfl|rfl|rfl|rfl|rfl|rfl<;>exact sf d_ d_ (by rw[nR];decide) (by rw[nR];decide)
theorem x1:mg vD/\mg pQ/\mg pm:=⟨sf d_ d_ (by rw[nR];decide) (by rw[nR];decide),sf d_ d_ (by rw[nR];decide) (by rw[nR];decide),sf d_ d_ (by rw[nR];decide) (by rw[nR];decide)⟩
end Go.Proofs.YtenbhdilndfaeaaGreat
