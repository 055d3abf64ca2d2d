import Derived.Shelf.SlicesG.CompactI
import Derived.Shelf.SlicesG.SearchI
import Derived.Shelf.SortM.Plain
import Derived.Shelf.SortM.SortNone
import Derived.Carry
import Derived.Lib.SlKeysI
import Derived.Lib.SlMapFilter
import Derived.Maps.RangeWalk
import Derived.Test.YtenbhdilndfaeaaGreatH33
import Derived.Laws.CopyRow
import Derived.Laws.EntriesVeiled
import Derived.Lib.SliceRun
import Derived.Sort.OwnSortedInts
set_option maxRecDepth 100000
set_option maxHeartbeats 0
set_option linter.all false
namespace Go.Proofs.YtenbhdilndfaeaaGreat
open Go.RowKit Go.Proofs.Tryz
section
open Go.Shelf
def zQ:Go.Shelf.Ren:=⟨fun|5=>107|8=>155|7=>154|19=>191|20=>192|10=>183|11=>184|12=>185|13=>186|14=>187|15=>188|16=>159|17=>189|18=>190|30=>209|31=>210|32=>211|33=>212|34=>213|35=>194|40=>220|n=>n,fun|23=>27|25=>2|3=>3|32=>102|22=>27|0=>0|44=>289|46=>291|4=>4|36=>283|35=>282|41=>165|5=>5|9=>9|53=>304|57=>308|63=>316|64=>317|n=>n,fun|n=>n⟩
def DO:Go.Proofs.SlLaysM.n5 prog zQ:={
 mixed:=by kernel_rfl
 f5:=⟨f107.name,by decide,func107.trans<|GG some k_⟩
 f7:=⟨f154.name,by decide,func154.trans<|GG some k_⟩
 f8:=func155.trans<|GG some k_
 f10:=⟨f183.name,by decide,func183.trans<|GG some k_⟩
 f11:=⟨f184.name,by decide,func184.trans<|GG some k_⟩
 f12:=⟨f185.name,by decide,func185.trans<|GG some k_⟩
 f13:=⟨f186.name,by decide,func186.trans<|GG some k_⟩
 f14:=⟨f187.name,by decide,func187.trans<|GG some k_⟩
 f15:=⟨f188.name,by decide,func188.trans<|GG some k_⟩
 f16:=⟨f159.name,by decide,func159.trans<|GG some k_⟩
 f17:=⟨f189.name,by decide,func189.trans<|GG some k_⟩
 f18:=⟨f190.name,by decide,func190.trans<|GG some k_⟩
 f19:=func191.trans<|GG some k_
 f20:=func192.trans<|GG some k_
 f30:=⟨f209.name,by decide,func209.trans<|GG some k_⟩
 f31:=func210.trans<|GG some k_
 f32:=func211.trans<|GG some k_
 f33:=⟨f212.name,by decide,func212.trans<|GG some k_⟩
 f34:=⟨f213.name,by decide,func213.trans<|GG some k_⟩
 f35:=⟨f194.name,by decide,func194.trans<|GG some k_⟩
 f40:=⟨f220.name,by decide,func220.trans<|GG some k_⟩
 t0:=underlying0
 a0:=isAgg0
 z0:=sizeOf0
 v0:=zeroValue0
 t3:=underlying3
 a3:=isAgg3
 z3:=sizeOf3
 v3:=zeroValue3
 t4:=underlying4
 a4:=isAgg4
 z4:=sizeOf4
 v4:=zeroValue4
 t5:=underlying5
 a5:=isAgg5
 z5:=sizeOf5
 v5:=zeroValue5
 t9:=underlying9
 a9:=isAgg9
 z9:=sizeOf9
 v9:=zeroValue9
 t22:=underlying27
 a22:=isAgg27
 z22:=sizeOf27
 v22:=zeroValue27
 t23:=underlying27
 a23:=isAgg27
 z23:=sizeOf27
 v23:=zeroValue27
 t25:=underlying2
 a25:=isAgg2
 z25:=sizeOf2
 v25:=zeroValue2
 t32:=underlying102
 a32:=isAgg102
 z32:=sizeOf102
 v32:=zeroValue102
 t35:=underlying282
 a35:=isAgg282
 z35:=sizeOf282
 v35:=zeroValue282
 t36:=underlying283
 a36:=isAgg283
 z36:=sizeOf283
 v36:=zeroValue283
 t41:=underlying165
 a41:=isAgg165
 z41:=sizeOf165
 v41:=zeroValue165
 t44:=underlying289
 a44:=isAgg289
 z44:=sizeOf289
 v44:=zeroValue289
 t46:=underlying291
 a46:=isAgg291
 z46:=sizeOf291
 v46:=zeroValue291
 t53:=underlying304
 a53:=isAgg304
 z53:=sizeOf304
 v53:=zeroValue304
 t57:=underlying308
 a57:=isAgg308
 z57:=sizeOf308
 v57:=zeroValue308
 t63:=underlying316
 a63:=isAgg316
 z63:=sizeOf316
 v63:=zeroValue316
 t64:=underlying317
 a64:=isAgg317
 z64:=sizeOf317
 v64:=zeroValue317}
def AC:Go.Shelf.Ren:=⟨fun|43=>108|n=>n,fun|22=>27|23=>2|3=>3|4=>4|0=>0|n=>n,fun|n=>n⟩
def DW:Go.Proofs.SlLaysN.n43 prog AC:={
 mixed:=by kernel_rfl
 f43:=⟨f108.name,by decide,func108.trans<|GG some k_⟩
 t0:=underlying0
 a0:=isAgg0
 z0:=sizeOf0
 v0:=zeroValue0
 t3:=underlying3
 a3:=isAgg3
 z3:=sizeOf3
 v3:=zeroValue3
 t4:=underlying4
 a4:=isAgg4
 z4:=sizeOf4
 v4:=zeroValue4
 t22:=underlying27
 a22:=isAgg27
 z22:=sizeOf27
 v22:=zeroValue27
 t23:=underlying2
 a23:=isAgg2
 z23:=sizeOf2
 v23:=zeroValue2
 i23:=by kernel_rfl}
def zP:Go.Shelf.Ren:=⟨fun|49=>113|59=>159|60=>160|68=>194|n=>n,fun|22=>27|23=>2|3=>3|4=>4|51=>102|0=>0|n=>n,fun|n=>n⟩
def E1:Go.Proofs.SlLaysN.n49 prog zP:={
 mixed:=by kernel_rfl
 f49:=⟨f113.name,by decide,func113.trans<|GG some k_⟩
 f59:=⟨f159.name,by decide,func159.trans<|GG some k_⟩
 f60:=⟨f160.name,by decide,func160.trans<|GG some k_⟩
 f68:=⟨f194.name,by decide,func194.trans<|GG some k_⟩
 t0:=underlying0
 a0:=isAgg0
 z0:=sizeOf0
 v0:=zeroValue0
 t3:=underlying3
 a3:=isAgg3
 z3:=sizeOf3
 v3:=zeroValue3
 t4:=underlying4
 a4:=isAgg4
 z4:=sizeOf4
 v4:=zeroValue4
 t22:=underlying27
 a22:=isAgg27
 z22:=sizeOf27
 v22:=zeroValue27
 t23:=underlying2
 a23:=isAgg2
 z23:=sizeOf2
 v23:=zeroValue2
 t51:=underlying102
 a51:=isAgg102
 z51:=sizeOf102
 v51:=zeroValue102}
end
section
variable{D:DataW Unit}{P:Int->Prop}{ys:QS}
section
open Go.RowKit Go.Maps
structure rF(D:DataW Unit)(P:Int->Prop):Prop where
 pk:∃es,D=.map es/\es.Pairwise (λp q=>p.1≠q.1)/\∀p∈es,∃x,p.1=.int .i64 x
 has:∀x,Maps.has D (.int .i64 x)=true↔P x
def rF.empty:rF (.map []) (λ_=>False):=⟨⟨[],rfl,List.Pairwise.nil,λb a=>by cases a⟩,λc=>by simp[Maps.has]⟩
def rF.congr{a:Int->Prop}(h:rF D P)(b:∀x,P x↔a x):rF D a:=⟨h.pk,λx=>(h.has x).trans<|b x⟩
def rF.put(h:rF D P)(n:Int)(d:DataW Unit):rF (D.put (.int .i64 n) d) (λx=>P x\/x=n):=by
 obtain⟨c,rfl,a,l⟩:=h.pk;have g:Maps.Tidy (DataW.map c):=⟨c,rfl,a⟩;have f:WideAt.IsKeyLit (.int .i64 n):=by simp[WideAt.IsKeyLit]
 obtain⟨i,j,k⟩:=g.put f d;refine⟨⟨i,j,k,λe a=>?_⟩,λx=>?_⟩;have b:=by
  have:DataW.map i=.map (DataW.insert (.int .i64 n,d)<|c.filter λe=> !e.1.sameKey (.int .i64 n)):=j.symm;injection this
 rw[b]at a;rcases N_.1 ((WideShapes.insert_perm _ _).mem_iff.1 a)with rfl|a
 exact⟨n,rfl⟩;exact l e (H6.1 a).1;by_cases b:x=n
 .subst b;simp[Maps.has_put_same g.isMap f]
 rw[Maps.has_put_other<|by intro h;injection h with _ h;exact b h];rw[h.has];simp[b]
def rF.perm(h:rF D P)(hy:Asc ys P):ys.Perm (intKeys D):=by
 obtain⟨d,rfl,c,b⟩:=h.pk;exact perm_intKeys c b hy.nodup λa=>(hy.mem a).trans (h.has a).symm
def rF.size(h:rF D P)(hy:Asc ys P):Maps.size D=ys.length:=by
 have b:=(h.perm hy).length_eq;obtain⟨a,rfl,d,c⟩:=h.pk;rw[b];show a.length=(a.map _).length;rw[Hf]
end
end
variable{base g j s:Nat}{ops:Array Oper}{a:Ob->Bool}{Q:Exit->Act->World->Prop}{x:Operand}{aT:TypeId}{α:Type}{rb:Bool}
def K7{G:Prop} (h:G:=by
 refine hN k_ ?_ _;go_wp2;go_meet;exact⟨x,av,aG,rfl,by simpa using b.hW 0 (.slice av a.length aG),Sl.iy k b I M,F.hJ M λy hy=>.inr<|by rw[J_]at hy;omega⟩):G:=h
section
open Go.RowKit Go.Sort Go.Shelf Go.Lib
def xn(d:Array Int)(r:∀i j,i<=j->j<d.size->d[i]! <=d[j]!):∀m,m<=d.size->Asc (compactUpTo d m) (λx=>∃j,j<m/\d[j]! =x)
 |0,_=>⟨by simp[compactUpTo],λx=>by simp[compactUpTo]⟩
 |m+1,B=>by
  have b:=xn d r m X;rw[compactUpTo_succ];cases q:keeps d m with
  |false=>
   have k:m≠0/\d[m]! =d[m-1]! :=by
    unfold keeps at q;have:=Jf q;exact⟨λe=>this<|.inl e,Classical.byContradiction λe=>this<|.inr e⟩
   refine⟨by simpa using b.lt,λx=>?_⟩;simp only[Bool.false_eq_true,if_false,IT,b.mem];constructor;rintro⟨j,c,e⟩;exact⟨j,X,e⟩;rintro⟨j,c,e⟩;by_cases h:j=m;subst h;exact⟨j-1,X,by rw[<-k.2];exact e⟩;exact⟨j,X,e⟩
  |true=>
   have k:m=0\/d[m]! ≠d[m-1]! :=IZ q;refine⟨?_,λx=>?_⟩;rw[L_ rfl,IP];refine⟨b.lt,s_,λx t C u=>?_⟩;rw[J_.1 u];obtain⟨j,c,rfl⟩:=(b.mem x).1 t;have v:=r j (m-1) X X;have y:=r (m-1) m X X;have z:=k.resolve_left X;omega;rw[L_ rfl,X_,b.mem,J_];constructor
   .rintro(⟨j,c,e⟩|e)
    .exact⟨j,X,e⟩
    exact⟨m,X,e.symm⟩
   rintro⟨j,c,e⟩;by_cases h:j=m;subst h;exact .inr e.symm;exact .inl ⟨j,X,e⟩
def AA(l:QS):compact (l.mergeSort λx y=>decide (x<=y))=oA l:=by
 have m:=List.mergeSort_perm l λx y=>decide (x<=y);have r:=List.pairwise_mergeSort (le:=λx y:Int=>decide (x<=y)) (λa k u v z=>by simp at*;omega) (λa k=>by simp;omega) l;generalize l.mergeSort (λx y=>decide (x<=y))=s at*
 have h:=xn s.toArray (λc j t b=>by
  have b:j<s.length:=zu b;rcases GU c j with h|h
  have:=List.pairwise_iff_getElem.1 r c j X b h;have d:s.toArray[c]! =s[c]:=by simp[show c<s.length by omega]
  have i:s.toArray[j]! =s[j]:=by simp[b]
  rw[d,i];exact NW;have:c=j:=X;subst this;exact Hl _) s.length s_
 unfold compact;refine Asc.eq h ?_;refine⟨(mA l).lt,λx=>?_⟩;rw[(mA l).mem,<-m.mem_iff,List.mem_iff_getElem];constructor;rintro⟨j,b,e⟩;exact⟨j,b,by simp[b,e]⟩;rintro⟨j,b,e⟩;exact⟨j,b,by simpa[b]using e⟩
def Fe(w:World):grow w #[]=w:=by unfold grow;simp
def sK{l:QS}{w:World}(h:GA base w g l)(hn:l.length<=1000000000)(P:base<=w.heap.size):
 Calls prog 70 #[q_ g] w λe w'=>∃(A:OA) (c:Nat),e=.returned (.slice A (oA l).length c)/\Ls w' A (oA l)/\(oA l).length<=c/\Fx base [119,2] w w':=by
 obtain⟨hbg,ad,r,m,E⟩:=h;refine ig λQ H=>?_;have ae:=m.f_ 0;rcases E.2 with⟨z,N⟩|⟨p,l6,cur,D,L,k,hcl,bD,F,aT⟩
 .have i:l=[]:=G1 N;subst i;injection z with z _ d;subst z;subst d;have u:=O<|AnyM.slices_Sort_int_none DO none 0 w;have o:=O<|AnyG.slices_Compact_int_empty DW none 0 w;clear E m;go_enter func70,ntmps70;go_wp2_with (first
   |(go_at_call 107;refine u.out.mono ?_;rintro e b⟨rfl,rfl⟩)
   |(go_at_call 108;refine o.out.mono ?_;rintro e b⟨rfl,rfl⟩))
  rw[H.out];exact⟨none,0,rfl,HB _ _ _ _,I_ _,.jS<|G_ _ _⟩
 injection D with D hv1 aZ;subst D;subst aZ;have aK:l.length<=9223372036854775807:=X;have t:Holds (Value.int .i64) w p 0 l.toArray:=holds_of_blockI k<|zu aT;have bU:=lv k;have u:=O<|AnyM.slices_Sort_int DO p 0 r l w t bU X;have aU:g≠p:=by
  rintro rfl;unfold Bk at m;rw[m]at k;cases k
 have ao:=O (show ∀(n:Nat) (os:Array Obj),J [p] w (grow (putRow (Value.int .i64) (Sort.ahead w n) p 0 (l.mergeSort λx d=>decide (x<=d)).toArray) os)/\
  (grow (putRow (Value.int .i64) (Sort.ahead w n) p 0 (l.mergeSort λx d=>decide (x<=d)).toArray) os).ownsRow base 2 1 (.slice (j_ p) l.length r) l.length ((l.mergeSort λx d=>decide (x<=d)).map<|Value.int .i64) from λn os=>
  ⟨(G_ [p] w).grown (grownBy_sortedI _) (λag i=>by injection i with i;exact .inl<|by simp[i]),ownsRow_sortedI (by rw[List.length_mergeSort]) L k hcl bD F⟩)
 have y:(l.mergeSort λx d=>decide (x<=d)).length=l.length:=List.length_mergeSort l;have aL:=O<|AA l;have ah:=O (show ∀w',J [p] w w'->Fx base [119,2] w w' from λw' hg=>Fx.one hg k L s_);clear aT F k t E;generalize (l.mergeSort λx d=>decide (x<=d))=ss at*
 go_enter func70,ntmps70;go_wp2_with fail;go_at_call 107;refine u.out.mono ?_;rintro e b⟨rfl,n,os,G⟩;obtain⟨B,K⟩:=ao.out n os;rw[<-G]at B K;clear G;have W:=m.gr B<|zu aU;have af:=W.f_ 0;obtain⟨ai,s,b0,a,S,f,aj,ak,al,V⟩:=K.2.resolve_left (λq=>by cases q.1);injection a with a _ Y;injection a with a;injection a with a;subst a;subst Y;have t:Holds (Value.int .i64) b p 0 ss.toArray:=holds_of_blockI f (by rw[y];simpa using V);have o:=AnyG.slices_Compact_int DW p 0 r ss b t X X;rw[y]at o;have o:=O o;go_wp2_with fail;go_at_call 108;refine o.out.mono ?_;rintro e T⟨rfl,q,I⟩;have cV:(compact ss).length<=l.length:=by
  rw[<-y];have:=(Hw (keeps ss.toArray)<|List.range ss.length);unfold compact compactUpTo;simp at this |-;exact this
 have v:T=grow (putRow (Value.int .i64) (Sort.ahead b q) p 0 (compact ss++List.replicate (l.length-(compact ss).length) 0).toArray) #[]:=by rw[Fe,I]
 have Z:J [p] b T:=by
  rw[v];exact(G_ [p] b).grown (grownBy_sortedI _) (λag i=>by injection i with i;exact .inl<|by simp[i])
 have R:=ownsRow_sortedI (w:=b) (n:=q) (os:=#[]) (base:=base) (ss:=ss) (ts:=compact ss++List.replicate (l.length-(compact ss).length) 0) p_ S f X ak al;rw[<-v]at R;clear I v;go_wp2;rw[H.out,<-aL.out];refine⟨j_ p,r,rfl,?_,X,(ah.out b B).trans<|Fx.one Z f S s_⟩;have U:=Sl.iZ R;refine⟨s_,λN=>?_⟩;obtain⟨am,off,cs,fz,hA,P,hc⟩:=U.2 X;refine⟨am,off,cs,fz,hA,P,λj an C=>hc j an ?_⟩;rw[GN,HN (by
  rcases GU j ((compact ss).map<|Value.int .i64).length with h|h
  exact h;rw[G7 h]at C;cases C)]
 exact C
end
section
variable{w w' a:World}{e:TypeId}{A:OA}
def Fl{l:QV}(h:Sl w e 4 A l.length<|l.flatMap Cl.E){k:Nat}(hk:k<l.length):∃b off,A=some (Z b off)/\w.cell? (Z b<|off+k*4)=some (Y l[k].id)/\w.cell? (Z b<|off+k*4+1)=some (Y l[k].f)/\w.cell? (Z b<|off+k*4+2)=some (.bool l[k].v.r)/\w.cell? (Z b<|off+k*4+3)=some (Y l[k].v.n):=Ma
def Fk{l:QC}(h:Sl w e 5 A l.length<|l.flatMap Dl.E){k:Nat}(hk:k<l.length):∃b off,A=some (Z b off)/\w.cell? (Z b<|off+k*5)=some (Y l[k].id)/\w.cell? (Z b<|off+k*5+1)=some (Y l[k].f)/\w.cell? (Z b<|off+k*5+2)=some (Y l[k].op)/\w.cell? (Z b<|off+k*5+3)=some (.bool l[k].v.r)/\w.cell? (Z b<|off+k*5+4)=some (Y l[k].v.n):=LX
def EY{l:QE}(h:Sl w e 48 A l.length<|l.flatMap λt=>t.g_.toList){k:Nat}(m:k<l.length):∃b c,A=some (Z b c)/\∀j,j<48->w.cell? (Z b<|c+k*48+j)=(l[k]).g_[j]?:=by
 obtain⟨b,c,hA,hc⟩:=Sl.row (E:=λt:Tk=>t.g_.toList) (λ_=>rfl) h m;refine⟨b,c,hA,λj i=>?_⟩;have d:j<(l[k]).g_.size:=by rw[Tk.size];exact i
 rw[GQ d,Ik];exact hc j _ (by simp[d])
end
structure AN(w:World)(t:Tk):Prop where
 gs:∃e,Sl w e 4 t.gs.A t.gs.l.length<|t.gs.l.flatMap Cl.E
 rs:∃e,Sl w e 4 t.rs.A t.rs.l.length<|t.rs.l.flatMap Cl.E
 ws:∃e,Sl w e 4 t.ws.A t.ws.l.length<|t.ws.l.flatMap Cl.E
 ds:∃e,Sl w e 5 t.ds.A t.ds.l.length<|t.ds.l.flatMap Dl.E
 nw:∃e,wo e w t.nw.A t.nw.l
 nr:∃E,uu E w t.nw.l
def kV.e{w:World}{t:Tk}(h:kV w t):AN w t:=⟨⟨_,h.gs⟩,⟨_,h.rs⟩,⟨_,h.ws⟩,⟨_,h.ds⟩,⟨_,h.nw.e⟩,⟨_,h.nr.e⟩⟩
def Gz{rest:QZ}{o:Oper}{a:Act}{w:World}{b off:Nat}{t:Tk}(hc:∀j,j<48->w.cell? (Z b<|off+j)=t.g_[j]?)(h:wpList prog ops Q rest (a.put o.dst<|.agg t.g_) w)(ao:o.guard=none:=by rfl)(ho:o.op=.load 53 x:=by rfl)(hx:a.eval x=.pointer (some<|Z b off):=by rfl):wpList prog ops Q (o::rest) a w:=
 wpList_plain ao λ_ H=>wp_load_mid 53 x ho b off hx t.g_.toList _ (λj v hj=>by
  have ag:j<48:=by
   rcases GU j 48 with h|h
   exact h;rw[G7<|by show 48<=j;exact h]at hj;cases hj
  rw[hc j ag];simpa using hj) underlying53 rfl k_ (H _ _ h)
def yB{e:TypeId}{c:Nat}{l R L:QS}{cs:QV}{A:OA}{a w:World}(h:GA base w g l)(ha:a.heap.size<=base)(K:J [] a w)(hc:Sl a e 4 A cs.length<|cs.flatMap Cl.E)(hb:base<=w.heap.size)(hL:l++(lj cs++R)=L)(hn:L.length<=1000000000)(hcl:cs.length<=1000000000):
 Calls prog 68 #[q_ g,.slice A cs.length c] w λe w'=>e=.returned (.tuple #[])/\(∃F,GA base w' g F/\F++R=L)/\Fx base [119,2] w w':=by
 refine ig λQ T=>?_;go_enter func68,ntmps68;go_wp2;have Z:=O hL;go_loopw [8] (λy wr=>∃(b:Nat) (i:QS),b<=cs.length/\y=Y b/\GA base wr g i/\Hid (i++(lj (cs.drop b)++R)=L)/\Fx base [119,2] w wr) (λy _=>cs.length-(intOf y).toNat)
 case atStart=>exact⟨0,l,R_ _,gn,h,O Z.out,.jS<|G_ _ _⟩
 obtain⟨b,i,hk,rfl,hA,C,r⟩:=hrel;by_cases B:b<cs.length
 .obtain⟨ad,off,H,bt,U,W,V⟩:=Fl hc B;subst H;have k:=r.gr a ha K;have ah:=k.f_ bt s_;have af:=k.f_ U s_;have ay:=k.f_ W s_;have aS:=k.f_ V s_;have s:=O (show((i++[cs[b].id])++qu cs[b].v)++(lj (cs.drop<|b+1)++R)=L by
   have e:=C.out;rw[W_ B]at e;rw[<-e];simp only[lj,Hc,Hq,Ip,G0])
  have iS:=GG List.length s.out;simp only[M_,GI,Hb]at iS;generalize cs[b]=x at*;have m:=T_ wr 116 #[Y x.id,Y x.f,.bool x.v.r,Y x.v.n];have t:=(G_ [] wr).alloc<|.cells #[Y x.id,Y x.f,.bool x.v.r,Y x.v.n] 116;obtain⟨d,D,S,P⟩:∃d D,wr.alloc (.cells #[Y x.id,Y x.f,.bool x.v.r,Y x.v.n] 116)=d/\wr.heap.size=D:=⟨_,_,rfl,rfl⟩;rw[S]at m t;rw[P]at m;have z0:=m.f_ 0;have G:=hA.hF t;have ai:base<=d.heap.size:=by have:=r.size;have:=t.size;omega
  have u:=(G_ [] d).alloc<|.cells #[Y x.id] 2;have N:=O (p4 (c:=1) (G.hF u) (Ls.one d x.id) p_<|by simp only[GI,Hb];omega);have aj:=m.hF u;have j:=(r.trans<|.jS t).trans<|.jS u;go_wp2_with fail;go_at_call 67;refine N.out.mono ?_;rintro e w2⟨rfl,ak,z⟩;have E:=z.bk aj;have aU:=E.f_ 2;have z3:=E.f_ 3;have f:=j.trans z;have M:=O<|ug (v:=x.v) ak (ov f.size) p_;go_wp2_with fail;go_at_call 69;refine M.out.mono ?_;rintro e ae⟨rfl,br,I⟩;go_wp2;go_roundw;exact⟨b+1,_,X,gn,br,s,f.trans I⟩;exact mz
 go_wp2;refine en_ ?_;rw[T.out];have e:=C.out;rw[H8 X]at e;exact⟨rfl,⟨i,hA,by simpa[lj]using e⟩,r⟩
section
open Go.RowKit Go.Maps
def FM(w:World)(M n:Nat)(f:Int->Bool):Prop:=
 ∃D:DataW Unit,w.ownsMap prog 2 (plainElem prog 4) M n D/\IsMap D/\(∀id:Int,(Lit.int .i64 id).wf=true->D.atKey (Lit.int .i64 id) (.lit<|.bool false)=.lit (.bool<|f id))/\rF D λx=>f x=true
section
variable{w w':World}{M n:Nat}{f:Int->Bool}
def FM.bm(h:FM w M n f):Bm w M n f:=by
 obtain⟨b,c,d,i,_⟩:=h;exact⟨b,c,d,i⟩
def FM.iF(h:FM w M n f)(hb:w'.heap[M]?=w.heap[M]?):FM w' M n f:=MV
def FM.hF(h:FM w M n f)(b:J [] w w'):FM w' M n f:=h.iF<|b.block M h.bm.lt s_
def FM.not(h:FM w M n f)(cs:Array Value)(t:TypeId)(b:Nat × Nat):w.heap[M]?≠some (.cells cs t b):=by
 obtain⟨i,⟨k,a,c,_⟩,_⟩:=h;rw[c];intro d;cases d
def FM.made(w:World):FM (w.alloc<|.map #[] 0) w.heap.size 0 (λ_=>false):=
 ⟨.map [],World.ownsMap_made w _ _ _,⟨[],rfl⟩,λid _=>rfl,rF.empty.congr λx=>s_⟩
def FM.update(h:FM w M n f)(u:n<maxLen){id:Int}(m:(Lit.int .i64 id).wf=true):
 ∃w',(Instr.mapUpdate 105 (.map<|some M) (Y id)<|.bool true).run prog w=.ok () w'/\FM w' M (n+1) (λi=>if i=id then true else f i)/\w.grownBy w' (some M):=by
 obtain⟨v,t,b,h3,d⟩:=h;obtain⟨w',c,q,r⟩:=t.update (int_keyed underlying2) underlying105 u (keyOf_int_mk underlying2 m)<|plainElem_bool underlying4 true;refine⟨w',c,⟨_,q,b.put _ _,λi hi=>?_,(d.put id _).congr λx=>?_⟩,r⟩;by_cases he:i=id
 .subst he;show _=DataW.lit (.bool (if i=i then true else f i));rw[L_ rfl];exact atKey_put_same (k:=Lit.int .i64 i) b trivial _ _
 show _=DataW.lit (.bool (if i=id then true else f i));exact MJ;by_cases he:x=id<;>simp[he]
def FM.bk(h:FM w M n f)(d:J [M] w w'){t:TypeId}{cs:Array Value}(b:Bk w g t cs):Bk w' g t cs:=
 b.gr d (λc=>by rw[J_]at c;subst c;exact h.not _ _ _ b)
def FM.sl(h:FM w M n f)(t:J [M] w w'){e:TypeId}{m:Nat}{A:OA}{k:QX}(d:Sl w e s A m k):Sl w' e s A m k:=
 ⟨d.1,λu=>by
   obtain⟨c,v,q,r,hA,b,hc⟩:=d.2 u;exact⟨c,v,q,r,hA,(t.block c (lv b) λi=>by rw[J_]at i;subst i;exact h.not _ _ _ b).trans b,hc⟩⟩
end
def yl{fs:QB}(b:j<fs.length):sx (fs.take<|j+1)=sx (fs.take j)++(if fs[j].r=true then[fs[j].n] else[]):=by
 rw[Y_ b];unfold sx;rw[IX,GN];split<;>simp_all
structure VM(bh bf bv M:Nat)(hA:OA)(hc:Nat)(l:QT)(w:World):Prop where
 b1:Bk w bh 35 #[.slice hA l.length hc]
 b2:Bk w bf 105 #[.map<|some M]
 b3:Bk w bv 129 #[.func (.func 74) #[] #[q_ bh,q_ bf,q_ bv]]
 os:∃e,wo e w hA l
 ll:∃E,uu E w l
section
variable{bh bf bv M hc nn:Nat}{hA:OA}{l:QT}{f:Int->Bool}{w w':World}
def VM.hF(v:VM bh bf bv M hA hc l w)(b:J [] w w'):VM bh bf bv M hA hc l w':=
 ⟨v.b1.hF b,v.b2.hF b,v.b3.hF b,let⟨e,h⟩:=v.os;⟨e,h.hF b⟩,let⟨e,h⟩:=v.ll;⟨e,h.hF b⟩⟩
def VM.gr(v:VM bh bf bv M hA hc l w)(h:FM w M nn f)(b:J [M] w w'):VM bh bf bv M hA hc l w':=
 ⟨h.bk b v.b1,h.bk b v.b2,h.bk b v.b3,let⟨e,c⟩:=v.os;⟨e,h.sl b c⟩,let⟨e,c⟩:=v.ll;⟨e,λi d=>⟨h.sl b (c i d).1,(c i d).2⟩⟩⟩
def CD(M:Nat)(h:QQ)(id:Int)(f:Int->Bool)(K:Nat)(w:World)(e:Ending)(w':World):Prop:=
 ∃(nn:Nat) (d:Int->Bool),e=.returned (.tuple #[])/\FM w' M nn d/\rJ h [id] (f · =true) (d · =true)/\nn+uD h (d · =true)<=K/\J [M] w w'
def visit_any(hn:l.length<=1000000000)(h0:(0:Int)∉ie (hY l))(aI:∀x∈ie (hY l),m5 x){K:Nat}(H:K<=1000000000):∀(n:Nat) (f:Int->Bool) (nn:Nat) (id:Int) (w:World),uD (hY l) (f · =true)<n->VM bh bf bv M hA hc l w->FM w M nn f->nn+uD (hY l) (f · =true)<=K->
 Calls prog 74 #[Y id,q_ bh,q_ bf,q_ bv] w (CD M (hY l) id f K w)
 |0,_,_,_,_,L,_,_,_=>GR L<|Nat.not_lt_zero _
 |n+1,f,nn,id,w,L,C,hf,N3=>by
  refine ig λQ P=>?_;have am:=O<|visit_any hn h0 aI H n;have al:=C.b1.f_ 0;obtain⟨_,ah⟩:=C.os;obtain⟨_,cw⟩:=C.ll;have G:=O<|Ao hA hc l id w ah cw hn;have an:=O (show ∀o,jy (hY l) id=some o->o.fs.length<=1000000000 from λo ho=>by
   obtain⟨ar,hr,rfl⟩:=GJ.1<|pZ ho;exact(cw ar hr).2)
  have aL:=O C;have ad:=O hf;have r:=O N3;have ak:=O L;go_enter func74,ntmps74;go_wp2_with fail;go_at_call 60;refine G.out.mono ?_;rintro e w1(⟨i,rfl,hg1⟩|⟨o,A1,c1,i,rfl,hv1,hg1⟩)
  .have HG:=O (show id∉ie (hY l) from λT=>by obtain⟨o,e⟩:=oh.1 T;rw[i]at e;cases e);go_wp2;refine rn_ ?_;rw[P.out];have b:=hg1.alloc<|.cells #[Y 0,n_] 56;exact⟨nn,f,rfl,ad.out.hF b,rJ.skip λc=>GR c HG.out,r.out,(G_ [M] w).hJ b s_⟩
  have hid:id∈ie (hY l):=oh.2 ⟨o,i⟩;have U:=aI id hid;have N1:=an.out o i;have HG:=O i;have av:=O hid;obtain⟨W,g,aW,bg,m,hB⟩:=box1 w1 56 #[Y o.id,.slice A1 o.fs.length c1];have c:=ad.out.hF<|hg1.trans m;have bD:=aL.out.hF<|hg1.trans m;have bO:=c.bm.lookup U;have z0:=bD.b2.f_ 0;cases B:f id with
  |true=>
   rw[B]at bO;have b:=O B;go_wp2;refine rn_ ?_;rw[P.out];exact⟨nn,f,rfl,c,rJ.skip λ_=>b.out,r.out,(G_ [M] w).hJ (hg1.trans m) s_⟩
  |false=>
   rw[B]at bO;have ay:∀x,(if x=id then true else f x)=true↔(f x=true\/x=id):=λx=>by by_cases e:x=id<;>simp[e]
   have ao:=O ay;have hl1:uD (hY l) (λx=>f x=true\/x=id)<uD (hY l) (f · =true):=Ec av.out (by rw[B];decide);have ae:=O hl1;obtain⟨D,aA,aB,d⟩:=c.update (by have:=r.out;unfold maxLen;omega) U;have d:J [M] W D:=(G_ [M] W).grown d (λaC S=>by injection S with S;exact .inl<|by simp[S]);have aD:=bD.gr c d;have y:Vs D A1 o.fs:=c.sl d<|hv1.hF m;have R:=c.bk d hB;have af:D.cell? (Z g 1)=some (.slice A1 o.fs.length c1):=R.f_ 1;have cI:J [M] w D:=((G_ [M] w).hJ (hg1.trans m) s_).trans d;have p:=O (show nn+1+uD (hY l) (λx=>f x=true\/x=id)<=K by have:=r.out;omega);have aE:=O (show ∀b:Int->Bool,(∀x,(f x=true\/x=id)->b x=true)->uD (hY l) (b · =true)<n from λb aF=>by
    have:=Ed (h:=hY l) aF;have:=ak.out;omega)
   go_wp2_with fail;go_loopw [27] (λN wr=>∃(j a:Nat) (b:Int->Bool),j<=o.fs.length/\N=Y j/\FM wr M a b/\Hid (a+uD (hY l) (b · =true)<=K)/\Hid (rJ (hY l) (sx<|o.fs.take j) (λx=>f x=true\/x=id) (b · =true))/\VM bh bf bv M hA hc l wr/\Vs wr A1 o.fs/\J [M] w wr) (λN _=>o.fs.length-(intOf N).toNat)
   case atStart=>exact⟨0,nn+1,_,R_ _,by go_num,aB,O (by have:=p.out;have e:uD (hY l) (λx=>(if x=id then true else f x)=true)=uD (hY l) (λx=>f x=true\/x=id):=GG _<|funext λx=>propext<|ao.out x;omega),O<|(rJ.nil _ _).congr (λ_=>Iff.rfl) λx=>(ao.out x).symm,aD,y,cI⟩
   obtain⟨j,a,b,hj,rfl,au,I,v,a2,y,V⟩:=hrel;by_cases bw:j<o.fs.length
   .obtain⟨aH,off,aK,ca,br⟩:=y.at_ bw;subst aK;have bS:=O<|yl bw;generalize o.fs[j]=k at*;have z3:=a2.b3.f_ 0;obtain⟨aj,aM,cy,aq,z,R⟩:=box1 wr 38 #[.bool k.r,Y k.n];obtain⟨bq,aY⟩:=R.iN;have q:=au.hF z;have t:=a2.hF z;have aO:=y.hF z;have bt:=V.trans<|(G_ [M] wr).hJ z s_;have z4:=t.b3.f_ 0;cases u:k.r with
    |false=>
     rw[u]at bq ca cy;have s:=O (show rJ (hY l) (sx<|o.fs.take<|j+1) (λx=>f x=true\/x=id) (b · =true) by rw[bS.out,u];simpa using v.out);go_wp2;go_roundw;exact⟨j+1,a,b,by omega,by go_num,q,I,s,t,aO,bt⟩;simp[intOf];omega
    |true=>
     rw[u]at bq ca cy;have G:=O<|am.out b a k.n aj (aE.out b v.out.up) t q I.out;have s:=O (show ∀F,rJ (hY l) [k.n] (b · =true) F->rJ (hY l) (sx<|o.fs.take<|j+1) (λx=>f x=true\/x=id) F from λF T=>by
      rw[bS.out,u,L_ rfl];exact v.out.app T)
     go_wp2_with fail;go_at_call 74;refine G.out.mono ?_;unfold CD;rintro e NY⟨aw,f5,rfl,A,bi,aP,E⟩;have bC:=t.gr q E;have ai:Vs NY (some<|Z aH off) o.fs:=q.sl E aO;have NZ:=O<|s.out _ bi;have N0:=O aP;go_wp2;go_roundw;exact⟨j+1,aw,f5,by omega,by go_num,A,N0,NZ,bC,ai,bt.trans E⟩;simp[intOf];omega
   go_wp2;refine rn_ ?_;rw[P.out];have k:=v.out;rw[GY X]at k;exact⟨a,b,rfl,au,rJ.node HG.out h0 k,I.out,V⟩
end
end
section
open Go.RowKit Go.Maps
def z_{T:List TypeId}{w w':World}{R:Value->Option (DataW Unit × List MemPlace)}{b r n:Nat}{c:DataW Unit}{k:Lit->Bool}{i:Nat}(h:w.ranges prog 2 R b r n c k i)(d:Fx base T w w'):w'.ranges prog 2 R b r n c k i:=by
 obtain⟨v,a,q,seen,t,B,m,D,z,C,rest⟩:=h;exact⟨v,a,q,seen,t,d.iF b _ B (λu E y e=>by cases e),m,D,z,d.iF r _ C (λu E y e=>by cases e),rest⟩
def By(y x:Int):(Lit.int .i64 y).sameKey (Lit.int .i64 x)=decide (y=x):=by
 by_cases h:y=x;subst h;rw[Hn rfl];exact WideAt.sameKey_self (by simp[WideAt.IsKeyLit]);rw[H4 h];cases e:(Lit.int .i64 y).sameKey (Lit.int .i64 x)with
 |false=>rfl
 |true=>have:=WideAt.sameKey_eq e;injection this with _ this;exact GR this h
def GA.grn{r:Nat}{w w':World}{l:QS}(h:GA base w g l)(i:∀cs t b,w.heap[r]?≠some (.cells cs t b))(d:J [r] w w'):GA base w' g l:=by
 obtain⟨q,A,m,c,u⟩:=h;exact⟨q,A,m,c.gr d (λk=>by rw[J_]at k;subst k;exact i _ _ _ c),kE u (λcs b=>i cs 2 b) d⟩
def yp{E:Rw->TypeId}{aY:TypeId}(hA:OA)(hc:Nat)(l:QT)(RA:OA)(d:Nat)(rs:QS)(w:World)(ar:wo aT w hA l)(hR:uu E w l)(hn:l.length<=50000000)(h0:(0:Int)∉ie (hY l))(aI:∀x∈ie (hY l),m5 x)(aF:Sl w aY 1 RA rs.length<|zs rs)(cu:rs.length<=1000000000):
 Calls prog 35 #[.agg #[.slice hA l.length hc],.slice RA rs.length d] w (pu (qJ (hY l) rs) w):=by
 refine ig λQ ax=>?_;have aS:= @run_makeMap prog;obtain⟨t,g,aW,hg,i,hB⟩:=box1 w 35 #[.slice hA l.length hc];have aQ:FM (t.alloc<|.map #[] 0) t.heap.size 0 (λ_=>false):=FM.made t;obtain⟨al,b7⟩:=mn_<|t.alloc<|.map #[] 0;obtain⟨M,an⟩:=mn_ t.heap.size;have j:J [] t al:=by rw[<-b7];exact(G_ [] t).alloc _
 have bA:w.heap.size<=M:=ov i.size;rw[b7,an]at aQ;obtain⟨B,bf,bv,bN,be,ae,u,br,G⟩:=uN al 105 #[.map<|some M] 129 #[.nilFunc];have aR:=G.f_ 0;have bE:=G.hG 0;have H:J [bv] B (B.setCell (Z bv 0)<|.func (.func 74) #[] #[q_ g,q_ bf,q_ bv]):=(G_ [bv] B).setCell (p:=Z bv 0) (.inl s_) _;go_enter func35,ntmps35;go_upto_region 4 with fail;have T:=aQ.hF u;have aA:FM (B.setCell (Z bv 0)<|.func (.func 74) #[] #[q_ g,q_ bf,q_ bv]) M 0 (λ_=>false):=T.iF (H.block M T.bm.lt λq=>by rw[J_]at q;subst q;exact T.not _ _ _ G);have bP:=G.hW 0<|.func (.func 74) #[] #[q_ g,q_ bf,q_ bv];have aG:=(i.trans j).trans u;have bz:w.heap.size<=bv:=by have:=i.size;have:=j.size;omega
 have n:=aG.hJ H (λb L=>.inr<|by rw[J_]at L;omega);have aq:g≠bv:=by have:=hB.lt;have:=j.size;omega
 have bd:bf≠bv:=X;have m:VM g bf bv M hA hc l (B.setCell (Z bv 0)<|.func (.func 74) #[] #[q_ g,q_ bf,q_ bv]):=⟨((hB.hF j).hF u).gr H<|zu aq,br.gr H<|zu bd,by simpa using bP,⟨_,ar.hF n⟩,⟨_,hR.hF n⟩⟩;clear hB br G bP i j u H aG aQ T aR bE aS aq bd;obtain⟨aj,cy⟩:=nm_<|B.setCell (Z bv 0)<|.func (.func 74) #[] #[q_ g,q_ bf,q_ bv];rw[<-cy]at aA n m |-;clear cy bN b7 aW hg be ae an;have bk:=O (show uD (hY l) (λx=>(λ_=>false) x=true)<=(hY l).length from CT);have bG:(hY l).length=l.length:=ib l
 go_wp2_with fail;go_loopw [15] (λap wr=>∃(k nn:Nat) (f:Int->Bool),k<=rs.length/\ap=Y k/\FM wr M nn f/\Hid (nn+uD (hY l) (f · =true)<=(hY l).length)/\Hid (rJ (hY l) (rs.take k) (λ_=>False) (f · =true))/\VM g bf bv M hA hc l wr/\J [] w wr) (λap _=>rs.length-(intOf ap).toNat)
 case atStart=>exact⟨0,0,_,R_ _,gn,aA,O<|ov bk.out,O<|(rJ.nil _ _).congr (λ_=>Iff.rfl) λx=>s_,m,n⟩
 clear aA bk m n;obtain⟨k,nn,f,D,rfl,au,aZ,C,m,i⟩:=hrel;have z3:=m.b3.f_ 0;by_cases ag:k<rs.length
 .obtain⟨bm,off,bx,V,r,y⟩:=Sl.at_ aF ag;have dL:bx=Y rs[k]:=by
   have:(zs rs)[k]?=some (Y rs[k]):=by simp[O_ ag]
   rw[this]at r;injection r with r;exact r.symm
  subst dL;subst V;have af:=i.f_ y s_;have W:=O<|Y_ ag;generalize rs[k]=x at*;have F:=O<|visit_any (M:=M) (K:=(hY l).length) X h0 aI X (uD (hY l) (f · =true)+1) f nn x wr (Nat.lt_succ_self _) m au aZ.out;clear y r;go_wp2_with fail;go_at_call 74;refine F.out.mono ?_;unfold CD;rintro e NY⟨S,I,rfl,A,z,v,R⟩;have U:=m.gr au R;have P:=O (show rJ (hY l) (rs.take<|k+1) (λ_=>False) (I · =true) by rw[W.out];exact C.out.app z);have N:=O v;have c6:J [] w NY:=i.hJ R (λb L=>.inr<|by rw[J_]at L;omega);clear z v;go_wp2;go_roundw;exact⟨k+1,S,I,X,gn,A,N,P,U,c6⟩;exact mz
 have I:=C.out;rw[GY X]at I;have bn:=O (show ∀x,f x=true↔wn (hY l) (· ∈rs) x from λx=>I.reach x);obtain⟨S,bB,bw,dT,h,bD⟩:=box1 wr 119 #[n_];have W:GA w.heap.size S bB []:=⟨ov i.size,none,0,bD,Zr.nil⟩;have aJ:=m.hF h;have ay:=aJ.b2.f_ 0;obtain⟨z,am,_,_,o⟩:=au.hF h;have ak:Maps.size z<=l.length:=by
  have h1:=o.size (ys:=qJ (hY l) rs) ⟨(kz _ _).lt,λx=>((kz (hY l) rs).mem x).trans (bn.out x).symm⟩;rw[h1,<-ib l];have:=ri (qJ (hY l) rs) (l:=ie<|hY l) (kz _ _).nodup λx I=>(((kz (hY l) rs).mem x).1 I).ids;simpa[ie]using this
 have bF:=i.trans h;clear m au I C aZ bD aJ z3;go_wp2_with (first|(at_range;refine wpList_range_own _ rfl _ 105 rfl 2 4 (int_keyed underlying2) underlying105 (plainElem prog 4) M nn z rfl am ?_;intro w0 av a7 aH)|go_in);obtain⟨y,hr⟩:=nm_ S.heap.size;have bq:w.heap.size<=y:=by have:=i.size;have:=h.size;omega
 rw[<-hr]at av |-;clear hr aH ay;have ah:J [] S w0:=(G_ [] S).grown a7 (λk D=>by cases D);have W:=W.hF ah;have aE:=bF.trans ah;have bR:=O (show ∀x,Maps.has z (Lit.int .i64 x)=true↔f x=true from o.has);have aD:=O ak;clear a7 ah am o ak bF h i
 go_frame;go_loopw [10] (λap wr=>∃(v:Lit->Bool) (N:Nat) (r:QS),wr.ranges prog 2 (plainElem prog 4) M y nn z v N/\GA w.heap.size wr bB r/\Hid (∀x,x∈r↔f x=true/\v (Lit.int .i64 x)=false)/\Hid (∀x,v (Lit.int .i64 x)=true->f x=true)/\r.length+N<=Maps.size z/\J [] w wr) (λ_ wr=>wr.rangeLeft M y)
 case atStart=>exact⟨_,_,[],av,W,O λx=>⟨λq=>(by cases q),λq=>by rw[(bR.out x).2 q.1]at q;cases q.2⟩,O λx q=>(bR.out x).1 q,s_,aE⟩
 clear av W aE;obtain⟨v,N,r,U,hA,C,ao,bX,i⟩:=hrel;have aC:=O U;go_upto_region 12 with(at_next;refine wpList_next_ranges _ rfl _ rfl 2 (int_keyed underlying2) (plainElem prog 4) (Value.int .i64) Value.bool (λbK bM bg=>by obtain⟨x,rfl,_⟩:=Maps.keyOf_int_inv underlying2 bg;exact⟨x,rfl⟩) (λbO b hv=>by obtain⟨c,rfl,_⟩:=nR underlying4 hv;exact⟨c,rfl⟩) M y nn z v N rfl aC.out (λbt hl0=>?_) λx c bM b P aX bY hl1 hv1 a8 aM cG hg1 b0 bL=>?_)
 .have bl:=O hl0;clear hl0 U;have bu:=aD.out;have F:=O<|sK hA X i.size;go_wp2_with (go_at_call 70;refine F.out.mono ?_;rintro e NY⟨a6,c5,rfl,aP,bo,A⟩);rw[ax.out];have he:oA r=qJ (hY l) rs:=Asc.eq (mA r) ⟨(kz _ _).lt,λx=>by
   rw[(kz (hY l) rs).mem,<-bn.out,C.out,bl.out];simp⟩
  rw[<-he];exact⟨a6,c5,rfl,aP,bo,A.gr w (I_ _) i⟩
 obtain⟨x',ex,rfl,aB⟩:=Maps.keyOf_int_inv underlying2 bY;cases ex
 have ai:J [y] wr P:=(G_ [y] wr).grown hg1 (λk D=>by injection D with D;exact .inl<|by simp[D]);have V:GA w.heap.size P bB r:=hA.grn (λcs bQ fz q=>by
  obtain⟨es,a,aV,seen,az,_,_,_,_,hr,_⟩:=U;rw[hr]at q;cases q) ai
 have j:J [] w P:=i.hJ ai (λb L=>.inr<|by rw[J_]at L;omega);have N3:=(G_ [] P).alloc<|.cells #[Y x] 2;have u:=j.trans N3;have bu:=aD.out;have F:=O (p4 (c:=1) (V.hF N3) (Ls.one P x) u.size<|by simp only[GI,Hb];omega);have bp:=aM.alloc<|.cells #[Y x] 2;have HM:Hid (wr.rangeLeft M y=N):=O aC.out.left_eq;have s:=O (show ∀b,b∈r++[x]↔f b=true/\(v (Lit.int .i64 b)&& !(Lit.int .i64 b).sameKey (Lit.int .i64 x))=false from λb=>by
  rw[X_,C.out,J_,By];by_cases e:b=x;subst e;simp[ao.out _ hl1];simp[e])
 have bj:=O (show ∀b,(v (Lit.int .i64 b)&& !(Lit.int .i64 b).sameKey (Lit.int .i64 x))=true->f b=true from λb q=>ao.out b<|by simp at q;exact q.1);clear U aM hA V i j N3 ai hg1 b0 hl1 bY hv1 a8;go_wp2_with (go_at_call 67;refine F.out.mono ?_;rintro e NY⟨rfl,aO,A⟩);have aU:=z_ bp A;have R:=A.gr w (I_ _) u;go_roundw;exact⟨_,aX,_,aU,aO,s,bj,p_,R⟩;rw[aU.left_eq,HM.out];omega
end
def po(p:Nat)(w:World)(l:QT):Prop:=∃cur,Bk w p 56 cur/\∀(i:Nat) (u:Value),(jw l)[i]?=some u->cur[i]?=some u
section
variable{p:Nat}{w w':World}{l:QT}
def po.os(h:po p w l):Os w (j_ p) l:=by
 obtain⟨b,c,hc⟩:=h;exact⟨lC l,λ_=>⟨p,0,b,(0,0),rfl,c,λj i d=>by rw[U_];exact hc j i d⟩⟩
def po.hF(h:po p w l)(d:J [] w w'):po p w' l:=by
 obtain⟨b,c,hc⟩:=h;exact⟨b,c.hF d,hc⟩
def po.fr(h:po p w l)(i:Nat):w.frozen? (Z p i)=false:=by
 obtain⟨c,b,_⟩:=h;exact b.hG i
def po.set(h:po p w l){k:Nat}(q:k<l.length)(r:Rw):po p ((w.setCell (Z p<|k*2)<|Y r.o.id).setCell (Z p<|k*2+1)<|.slice r.A r.o.fs.length r.c) (l.set k r):=by
 obtain⟨C,c,hc⟩:=h;have m:=ql Rw.E (λ_=>rfl) q r (Y r.o.id) (.slice r.A r.o.fs.length r.c) rfl c hc l.length rfl;have b:=(c.hW (k*2)<|Y r.o.id).hW (k*2+1)<|.slice r.A r.o.fs.length r.c;obtain⟨z,E,B,D,hA,d,i⟩:=m.2 X;injection hA with hA;injection hA with hA t;subst hA;subst t;have e:=b.symm.trans d;injection e with e;injection e with e;exact⟨_,b,λv y u=>by rw[e];have:=i v y u;rwa [U_]at this⟩
def B9(k:Nat)(x y:Value):J [p] w ((w.setCell (Z p<|k*2) x).setCell (Z p<|k*2+1) y):=
 ((G_ [p] w).setCell (p:=Z p<|k*2) (.inl s_) x).setCell (p:=Z p<|k*2+1) (.inl s_) y
def po.vs(h:po p w l)(c:J [p] w w'){A:OA}{fs:QB}(d:Vs w A fs):Vs w' A fs:=by
 obtain⟨i,b,_⟩:=h;exact Sl.iy d b I c
end
def yG{F:TypeId}(o:Ob)(A:OA)(c:Nat)(w:World)(h:yS F w A o.fs)(v:o.fs.length<=1000000000):
 Calls prog 158 #[.agg #[Y o.id,.slice A o.fs.length c]] w λe w'=>∃(A':OA) (c':Nat),e=.returned (.agg #[Y o.id,.slice A' o.fs.length c'])/\Vs w' A' o.fs/\J [] w w':=by
 obtain⟨id,d⟩:=o;simp only at h v |-;obtain⟨y,g,b,P,hg,K,t,u,E⟩:=uN w 56 #[Y id,.slice A d.length c] 56 #[Y 0,n_];obtain⟨L,S⟩:=u.iN;have z:=O<|sJ A c d y (h.hF t) v
 go_enter func158,ntmps158;go_wp2_with fail;go_at_call 151;refine z.out.mono ?_;rintro e H⟨i,m,rfl,G,r⟩;have q:=u.hF r;obtain⟨z0,N⟩:=q.iN;have V:=q.hG 1;have k:=E.hF r;obtain⟨U,R⟩:=k.iN;have T:=k.hG 0;have W:=k.hG 1;have B:b≠g:=X;go_wp2;have a:=k.ir (p:=Z g 1) B<|.slice i d.length m;have C:=(a.hW 0<|Y id).hW 1<|.slice i d.length m;have D:w.heap.size<=g:=X;refine rr_ #[Y id,.slice i d.length m] C underlying56 ⟨i,m,rfl,?_,?_⟩;exact Sl.iy (Sl.iy G q I<|(G_ [g] H).setCell (p:=Z g 1) (.inl s_) _) a I<|((G_ [b] _).setCell (p:=Z b 0) (.inl s_) _).setCell (p:=Z b 1) (.inl s_) _;exact(((t.trans r).setCell (p:=Z g 1) (.inr D) _).setCell (p:=Z b 0) (.inr<|by show w.heap.size<=b;omega) _).setCell (p:=Z b 1) (.inr<|by show w.heap.size<=b;omega) _
def v_(A:OA)(c:Nat)(l:QT)(w:World)(h:wo aT w A l)(B:l.length<=1000000000):
 Calls prog 193 #[.slice A l.length c] w λe w'=>∃(A':OA) (c':Nat),e=.returned (.slice A' l.length c')/\l.length<=c'/\w'.ownsRow w.heap.size 56 2 (.slice A' l.length c') l.length (jw l)/\J [] w w':=by
 obtain⟨r,q,m,t,u⟩:=info_parts infoOb;have k:=λi=>Lib.run_eql_slice_nil (P:=prog) i 33 56 A l.length c 0 0 underlying33;rcases A with _|y
 .have h0:l.length=0:=Mw;have d:l=[]:=G1 h0;subst d;simp only[Hb]at k |-
  go_enter func193,ntmps193;go_wp2;go_ret;exact⟨none,0,rfl,I_ _,i4 _ _ _ _,G_ _ _⟩
 generalize z:l.length=n at*
 go_enter func193,ntmps193;go_wp2_with (at_builtin;refine iQ _ rfl (.tmp 5) (.tmp 6) 33 rfl w.heap.size 56 r _ 2 32 underlying33 q m t u rfl I I _ 0 0 [] rfl (vm _ _ _ _ _ s_ s_) (some y) n c (jw l) rfl (by subst z;exact Sl.alloc h _) (j9 l) X s_ ?_;intro d v C a f;simp only[U_,G0]at a);go_ret;refine⟨d,v,oJ X,jq a,a,f.gr [] w X<|(G_ _ w).alloc _⟩
def Cj{E:Rw->TypeId}(A:OA)(c:Nat)(l:QT)(w:World)(h:wo aT w A l)(P:uu E w l)(hn:l.length<=1000000000):
 Calls prog 157 #[.slice A l.length c,.func (.func 158) #[] #[]] w λe w'=>∃(A':OA) (c':Nat) (d:QT),e=.returned (.slice A' l.length c')/\hY d=hY l/\l.length<=c'/\(0<l.length->∃p,A'=j_ p/\w.heap.size<=p/\po p w' d)/\nv w' d/\J [] w w':=by
 refine ig λQ ax=>?_;have T:=O<|v_ A c l w h hn;go_enter func157,ntmps157;go_wp2_with fail;go_at_call 193;refine T.out.mono ?_;rintro e w1⟨R,c1,rfl,cV,cT,hg1⟩;go_wp2_with fail;go_loopw [12] (λG wr=>∃(b:Nat) (d:QT),b<=l.length/\G=Y b/\d.length=l.length/\Hid (hY d=hY l)/\d.drop b=l.drop b/\nv wr (d.take b)/\(0<l.length->∃p,R=j_ p/\w.heap.size<=p/\po p wr d)/\J [] w wr) (λG _=>l.length-(intOf G).toNat)
 case atStart=>
  refine⟨0,l,R_ _,gn,rfl,O rfl,rfl,λi P=>by simp at P,λm=>?_,hg1⟩;obtain⟨p,k,hA,q,D,hc⟩:=kN cT m;exact⟨p,hA,q,k,D,hc⟩
 obtain⟨b,d,hi,rfl,bN,S,I,f,V,N⟩:=hrel;by_cases v:b<l.length
 .obtain⟨p,hA,ak,K⟩:=V X;subst hA;have u:b<d.length:=X;have L:d[b]=l[b]:=by
   have e:=I;rw[W_ v,W_ u]at e;injection e
  obtain⟨ad,off,hA,C,B⟩:=K.os.at_ u;injection hA with hA;injection hA with hA ae;subst hA;subst ae;obtain⟨Z,H⟩:=P.hF N l[b]<|P_ v;rw[L]at C B;simp only[U_]at C B;have aL:=O L;clear L;have aj:=O I;clear I;obtain⟨i,a⟩:=mn_ l[b];have bn:=O a;rw[a]at Z H C B;clear a;obtain⟨ah,gb,aW,aP,m,D⟩:=box1 wr 56 #[Y i.o.id,.slice i.A i.o.fs.length i.c];obtain⟨al,af⟩:=D.iN;have M:=O<|yG i.o i.A i.c ah (Z.hF m) H;have W:=K.hF m;have F:=f.hF m;have N3:=N.trans m;clear K f D T;go_wp2_with fail;go_at_call 158;refine M.out.mono ?_;rintro e w2⟨z,y,rfl,U,q⟩;have r:=W.hF q;have aR:=q.f_ (m.f_ C s_) s_;have bq:=q.f_ (m.f_ B s_) s_;have bE:=r.fr<|b*2;have bz:=r.fr<|b*2+1;have da:=r.set u ⟨i.o,z,y⟩;have t:=B9 (p:=p) (w:=w2) b (Y i.o.id)<|.slice z i.o.fs.length y;have bj:=r.vs t U;have cH:nv _ (d.take b):=λx k=>⟨r.vs t (F.hF q x k).1,(F.hF q x k).2⟩;have NZ:=(N3.trans q).hJ t (λan hy=>.inr<|by rw[J_]at hy;omega);clear r t W U F;go_wp2;go_roundw
  case rel=>
   refine⟨b+1,d.set b ⟨i.o,z,y⟩,X,gn,by simpa using bN,O ?_,?_,?_,λ_=>⟨p,rfl,ak,da⟩,NZ⟩;rw[s8,S.out];apply IK;intro j;rw[IJ];split
   .rename_i e;subst e;have:(hY l)[b]?=some i.o:=by unfold hY;rw[Hg,O_ v,bn.out];rfl
    rw[this];simp[ib,v]
   rfl;rw[Je X,List.drop_add_one_eq_tail_drop,aj.out,<-List.drop_add_one_eq_tail_drop];intro x k;rw[List.take_set,Y_ u]at k;rw[I7 _ _ p_]at k;rcases X_.1 k with k|k
   exact cH x k;have:x=⟨i.o,z,y⟩:=by
    rw[Hj,I6 X,Nat.sub_self]at k;simpa using k
   subst this;exact⟨bj,H⟩
  case measure=>exact mz
 go_wp2;rw[ax.out];refine⟨R,c1,d,rfl,S.out,cV,V,?_,N⟩;rw[GY X]at f;exact f
def xk{E:Rw->TypeId}(A:OA)(c:Nat)(l:QT)(w:World)(h:wo aT w A l)(q:uu E w l)(P:l.length<=1000000000):
 Calls prog 111 #[.agg #[.slice A l.length c]] w λe w'=>∃(A':OA) (c':Nat) (b:QT),e=.returned (.agg #[.slice A' l.length c'])/\hY b=hY l/\l.length<=c'/\(0<l.length->∃p,A'=j_ p/\w.heap.size<=p/\po p w' b)/\nv w' b/\J [] w w':=by
 refine ig λQ C=>?_;obtain⟨z,g,r,X,hg,V,i,L,u⟩:=uN w 35 #[.slice A l.length c] 35 #[n_];have W:=L.f_ 0;have B:=O<|Cj A c l z (h.hF i) (q.hF i) P;go_enter func111,ntmps111;go_wp2_with fail;go_at_call 157;refine B.out.mono ?_;rintro e t⟨d,m,b,rfl,R,G,D,f,v⟩;have k:=u.hF v;have bq:=k.f_ 0;have Y:=k.hG 0;go_wp2;have F:=k.hW 0<|.slice d l.length m;have M:J [r] t (t.setCell (Z r 0)<|.slice d l.length m):=(G_ [r] t).setCell (p:=Z r 0) (.inl s_) _;refine rr_ #[.slice d l.length m] F underlying35 ?_;rw[C.out];refine⟨d,m,b,rfl,R,G,λK=>?_,λy q=>⟨Sl.iy (f y q).1 k I M,(f y q).2⟩,(i.trans v).hJ M λad T=>.inr<|by rw[J_]at T;omega⟩;obtain⟨p,hA,S,H,N,hc⟩:=D K;refine⟨p,hA,H_ i.size S,H,N.gr M λU=>?_,hc⟩;rw[J_]at U;have:=u.lt;omega
def tL{p k m c:Nat}{b:Array Value}{w:World}(u:Bk w p 56 b)(G:0<m)(E:k*2+m*2<=b.size):
 ∃w',(∀v,(Builtin.clear_ #[33] v #[.slice (some<|Z p<|k*2) m c]).run prog w=.ok (.tuple #[]) w')/\J [p] w w'/\∃r,Bk w' p 56 r/\∀i,i<k*2->r[i]?=b[i]?:=by
 obtain⟨m,rfl⟩:∃q,m=q+1:=⟨m-1,X⟩;have B:(Builtin.zeroCells #[Y 0,n_]<|m+1).toList.length=(m+1)*2:=by simp[Builtin.zeroCells]
 have C:∀y∈(Builtin.zeroCells #[Y 0,n_]<|m+1).toList,y.oneCell'=true:=by
  intro y d;simp[Builtin.zeroCells]at d;obtain⟨a,F,rfl⟩:=d;have:a % 2=0\/a % 2=1:=X;rcases this with h|h<;>simp[h,Value.oneCell']
 have t:=run_storeCells_at prog p (k*2) 56 (Builtin.zeroCells #[Y 0,n_]<|m+1).toList 0 b w u (by rw[B];omega) C;simp only[Id]at t;have d:=λz=>zeroValue56 z;refine⟨_,λv=>by simp[Builtin.clear_,Hu underlying33,d,t,Value.cells];rfl,?_,?_⟩;exact⟨rfl,rfl,rfl,s_,λk E D=>setRow_other w p k _<|zu D⟩;refine⟨_,setRow_heap w p b _ 56 (0,0) u,λi D=>?_⟩;rw[I8,HN p_,List.getElem?_take_of_lt D,Array.getElem?_toList]
def Gb(f s:Nat)(a:Ob->Bool)(p:Nat)(W:World):Prop:=
 ∀(o:Ob) (A:OA) (c:Nat) (w:World),J [p] W w->Calls prog 112 #[.agg #[Y o.id,.slice A o.fs.length c],q_ f,q_ s] w λe w'=>e=.returned (.bool<|a o)/\J [] w w'
def uJ{f:Nat}{p n c:Nat}{l:QT}{W w:World}(t:Gb f s a p W)(H:J [p] W w)(G:po p w l)(R:l.length=n)(K:n<=1000000000):
 Calls prog 156 #[.slice (j_ p) n c,.func (.func 112) #[] #[q_ f,q_ s]] w λe w'=>e=.returned (Y<|iK (λr:Rw=>a r.o) l 0)/\J [] w w':=by
 refine ig λQ u=>?_;have E:=O (show iK (λr:Rw=>a r.o) l 0=iK (λr:Rw=>a r.o) (l.drop 0) 0 from rfl);have I:=O t;clear t;go_enter func156,ntmps156;go_wp2;go_loopw [8] (λq w'=>∃b:Nat,b<=n/\q=Y b/\Hid (iK (λr:Rw=>a r.o) l 0=iK (λr:Rw=>a r.o) (l.drop b) b)/\J [] w w') (λq _=>n-(intOf q).toNat)
 case atStart=>exact⟨0,R_ _,gn,E,G_ _ _⟩
 obtain⟨b,P,rfl,HI,d⟩:=hrel;by_cases L:b<n
 .have i:b<l.length:=X;obtain⟨N,S,hA,F,C⟩:=(G.hF d).os.at_ i;injection hA with hA;injection hA with hA y;subst hA;subst y;simp only[U_]at F C;have D:=O<|l4 (λr:Rw=>a r.o) l b b i;have HM:=O<|kO (λr:Rw=>a r.o) l b b i;generalize l[b]=r at*;have B:=O<|I.out r.o r.A r.c wr<|H.hJ d s_;clear i;go_wp2_with fail;go_at_call 112;refine B.out.mono ?_;rintro e T⟨rfl,z⟩;have v:=d.trans z;cases k:a r.o with
  |true=>
   have m:=O<|D.out k;clear k;go_wp2;rw[u.out,HI.out,m.out];exact⟨rfl,v⟩
  |false=>
   have m:=O<|HM.out k;clear k;go_wp2;go_roundw;exact⟨b+1,X,gn,O (by rw[HI.out,m.out]),v⟩;exact mz
 go_wp2;rw[u.out,HI.out,mP _ _ _ _ X];exact⟨rfl,d⟩
def B2(q:α->Bool)(l:List α):(iK q l 0= -1/\∀x∈l,q x=false)\/∃k,∃m:k<l.length,iK q l 0=(k:Nat)/\q l[k]=true/\∀x∈l.take k,q x=false:=by
 suffices H:∀j:Nat,(iK q l j= -1/\∀x∈l,q x=false)\/∃k,∃m:k<l.length,iK q l j=(j+k:Nat)/\q l[k]=true/\∀x∈l.take k,q x=false by
  rcases H 0 with h|⟨k,m,d,i⟩
  exact .inl h;exact .inr ⟨k,m,by rw[d];simp,i⟩
 induction l with
 |nil=>intro j;left;exact⟨rfl,λx b=>by cases b⟩
 |cons o l r=>
  intro j;by_cases c:q o=true;right;exact⟨0,s_,by simp[iK,c],by simpa using c,λx b=>by simp at b⟩;have t:iK q (o::l) j=iK q l (j+1):=by simp[iK,c]
  have c:q o=false:=zu c;rw[t];rcases r (j+1)with⟨d,i⟩|⟨k,m,d,i,u⟩
  exact .inl ⟨d,λx b=>by rcases N_.1 b with rfl|b;exact c;exact i x b⟩;refine .inr ⟨k+1,by simpa using m,by rw[d];congr 1;omega,by simpa using i,λx b=>?_⟩;rw[IQ]at b;rcases N_.1 b with rfl|b
  exact c;exact u x b
def vv{q:α->Bool}{l:List α}(h:∀x∈l,q x=false):l.filter (λx=> !q x)=l:=List.filter_eq_self.2 λx b=>by simp[h x b]
def xm{f:Nat}{p n c:Nat}{l:QT}{w:World}(I:Gb f s a p w)(i:po p w l)(S:l.length=n)(aK:n<=1000000000)(ah:n<=c):
 Calls prog 110 #[.slice (j_ p) n c,.func (.func 112) #[] #[q_ f,q_ s]] w λe w'=>∃b,e=.returned (.slice (j_ p) b.length c)/\b=l.filter (λr=> !a r.o)/\Os w' (j_ p) b/\J [p] w w':=by
 refine ig λQ ax=>?_;have ai:=O I;have V:=O<|uJ I (G_ [p] w) i S aK (c:=c);clear I;rcases B2 (λr:Rw=>a r.o) l with⟨C,z⟩|⟨k,hk,C,aj,z⟩
 .have HI:=O C;have D:=O<|vv (q:=λr:Rw=>a r.o) z;clear C z;go_enter func110,ntmps110;go_wp2_with fail;go_at_call 156;refine V.out.mono ?_;rintro e w1⟨rfl,B⟩;rw[HI.out];go_wp2;rw[ax.out];exact⟨l,by rw[S];rfl,D.out.symm,(i.hF B).os,(G_ [p] w).hJ B s_⟩
 have HI:=O C;have D:=O (show(l.take<|k+1).filter (λr=> !a r.o)=l.take k by
  rw[Y_ hk,IX,vv z];simp[aj])
 clear C z aj;go_enter func110,ntmps110;go_wp2_with fail;go_at_call 156;refine V.out.mono ?_;rintro e w1⟨rfl,B⟩;rw[HI.out];have aq:=i.hF B;have A:=(G_ [p] w).hJ B (by simp:∀x∈([]:QY),x∈[p]\/w.heap.size<=x);clear i;go_wp2_with fail;go_loopw [5,6] (λap P wr=>∃(d j:Nat) (b:QT),d<j/\j<=n/\ap=Y d/\P=Y j/\po p wr b/\b.length=n/\Hid (b.take d=(l.take j).filter λr=> !a r.o)/\Hid (b.drop j=l.drop j)/\J [p] w wr) (λ_ P _=>n-(intOf P).toNat)
 case atStart=>exact⟨k,k+1,l,X,X,gn,gn,aq,S,O D.out.symm,O rfl,A⟩
 clear aq A D;obtain⟨d,j,b,al,hj,rfl,rfl,i,bN,L,HD,hg⟩:=hrel;by_cases ag:j<n
 .have bw:j<b.length:=X;have T:j<l.length:=X;have F:d<b.length:=X;obtain⟨an,off,hA,bt,bA⟩:=i.os.at_ bw;injection hA with hA;injection hA with hA G;subst hA;subst G;obtain⟨an,off,hA,W,bg⟩:=i.os.at_ F;injection hA with hA;injection hA with hA G;subst hA;subst G;simp only[U_]at bt bA W bg;have R:b[j]=l[j]/\b.drop (j+1)=l.drop (j+1):=by
   have e:=HD.out;rw[W_ bw,W_ T]at e;injection e with aC av;exact⟨aC,av⟩
  rw[R.1]at bt bA;have ca:=O R.2;have Z:=O (show(l.take<|j+1).filter (λr=> !a r.o)=(l.take j).filter (λr=> !a r.o)++(if a l[j].o=true then[] else[l[j]]) by
   rw[Y_ T,IX];cases u:a l[j].o<;>simp[u])
  clear R;generalize l[j]=r at*;obtain⟨ao,gb,aW,aP,E,t⟩:=box1 wr 56 #[Y r.o.id,.slice r.A r.o.fs.length r.c];have ar:=hg.hJ E (by simp:∀x∈([]:QY),x∈[p]\/w.heap.size<=x);have M:=O<|ai.out r.o r.A r.c ao ar;have N:=i.hF E;obtain⟨au,af⟩:=t.iN;go_wp2_with fail;go_at_call 112;refine M.out.mono ?_;rintro e w2⟨rfl,v⟩;have y:=N.hF v;have ek:=ar.hJ v (by simp:∀x∈([]:QY),x∈[p]\/w.heap.size<=x);cases u:a r.o with
  |true=>
   have H:=O (show(l.take<|j+1).filter (λr=> !a r.o)=(l.take j).filter (λr=> !a r.o) by rw[Z.out,u];simp);have g:=O<|L.out.trans H.out.symm;clear u i N t;go_wp2;go_roundw;repeat(first|(refine⟨?_,rfl⟩;exact⟨d,j+1,b,X,X,rfl,gn,y,bN,g,ca,ek⟩)|apply Exists.intro)
   exact mz
  |false=>
   have H:=O (show(l.take<|j+1).filter (λr=> !a r.o)=(l.take j).filter (λr=> !a r.o)++[r] by rw[Z.out,u];simp);have K:=t.hF v;obtain⟨z0,aM⟩:=K.iN;have aR:=v.f_ (E.f_ W s_) s_;have bq:=v.f_ (E.f_ bg s_) s_;have bE:=y.fr<|d*2;have bz:=y.fr<|d*2+1;have da:=y.set F r;have U:=B9 (p:=p) (w:=w2) d (Y r.o.id)<|.slice r.A r.o.fs.length r.c;have aw:=ek.trans U;have g:=O (show(b.set d r).take (d+1)=(l.take<|j+1).filter (λr=> !a r.o) by
    rw[H.out,<-L.out,List.take_set,Y_ F,I7 _ _ p_];simp[I6<|Nat.le_of_lt F])
   have cg:=O (show(b.set d r).drop (j+1)=l.drop (j+1) by rw[Je X];exact ca.out);clear u i N y t U;go_wp2;go_roundw;repeat(first|(refine⟨?_,rfl⟩;exact⟨d+1,j+1,b.set d r,X,X,gn,gn,da,by simpa using bN,g,cg,aw⟩)|apply Exists.intro)
   exact mz
 have G:j=n:=X;subst G;obtain⟨v,t,y⟩:=i;have U:b.length*2<=v.size:=by
  rcases Hr b.length with H|H
  omega;have iS:(jw b).length=b.length*2:=lC b;have N:b.length*2-1<(jw b).length:=X;have:=y _ _<|O_ N;rcases GU (b.length*2-1) v.size with h|h
  omega;exact NR
 obtain⟨W,Z,E,F,K,T⟩:=tL (k:=d) (m:=j-d) (c:=c-d) t X X;have g:=O (show b.take d=l.filter (λr=> !a r.o) by have e:=L.out;rwa [GY (l:=l) X]at e);go_wp2;rw[ax.out];refine⟨b.take d,by rw[Hj,I6 X];rfl,g.out,⟨lC _,λ_=>⟨p,0,F,(0,0),rfl,K,λq R u=>?_⟩⟩,hg.trans E⟩;unfold jw at u;rw[um Rw.E 2 λ_=>rfl,Hv]at u;split at u;rw[U_,T q<|by assumption];exact y q R u;cases u
def y9(t:iP)(M:QS):Nat->List Int
 |0=>lj t.gs++(lj t.rs++(lj t.ws++M))
 |1=>lj t.rs++(lj t.ws++M)
 |2=>lj t.ws++M
 |_=>M
def wK(t:iP)(R:QS):np t++R=y9 t (t.ds.map (·.id)++(m7 t.nw++R)) 0:=by
 simp[np,y9]
def yj{fs:QB}(b:j<fs.length):pQ (fs.drop j)=qu fs[j]++pQ (fs.drop<|j+1):=by
 rw[W_ b];unfold pQ qu;rw[Iz];split<;>simp
def yk{h:QQ}(b:j<h.length):m7 (h.drop j)=pQ h[j].fs++m7 (h.drop<|j+1):=by
 rw[W_ b];rfl
def B1{b r L:QS}(h:b++r=L):b.length<=L.length:=by rw[<-h];simp
def rP{P:Program}{rest:QZ}{o:Oper}{a:Act}{w:World}{i:Operand}{t:TypeId}{cs:Array Value}{n:Int}{v:Value}(N:(Instr.index t (.agg cs)<|Y n).run P w=.ok v w)(h:wpList P ops Q rest (a.put o.dst v) w)(ao:o.guard=none:=by rfl)(ho:o.op=.index t x i:=by rfl)(hx:a.eval x=.agg cs:=by rfl)(hi:a.eval i=Y n:=by rfl):wpList P ops Q (o::rest) a w:=
 wpList_plain ao λ_ H=>by
  unfold Oper.wp;simp[execOp,ho,hx,hi,N,Result.andThen];exact H _ _ h
def FX{a b c:Value}(w:World):(Instr.index 121 (.agg #[a,b,c])<|Y 0).run prog w=.ok a w/\(Instr.index 121 (.agg #[a,b,c])<|Y 1).run prog w=.ok b w/\(Instr.index 121 (.agg #[a,b,c])<|Y 2).run prog w=.ok c w:=⟨k_,k_,k_⟩
def zZ{ae:TypeId}(TA:OA)(tc:Nat)(ts:QE)(w:World)(N1:Sl w ae 48 TA ts.length<|ts.flatMap λt=>t.g_.toList)(ah:∀t∈ts,AN w t)(hn:(k4<|ts.map Tk.p).length<=1000000000)
 (hb:ts.length<=1000000000/\∀t∈ts,t.gs.l.length<=1000000000/\t.rs.l.length<=1000000000/\t.ws.l.length<=1000000000/\t.ds.l.length<=1000000000/\t.nw.l.length<=1000000000):
 Calls prog 28 #[.slice TA ts.length tc] w (pu (oA<|k4<|ts.map Tk.p) w):=by
 refine ig λQ ax=>?_;obtain⟨R,g,aW,bg,N2,hB⟩:=box1 w 119 #[n_];have ad:GA w.heap.size R g []:=⟨X,none,0,hB,Zr.nil⟩;have E:=(G_ [] R).alloc<|.cells #[Y 1] 2;have C:=O<|p4 (c:=1) (ad.hF E) (Ls.one R 1) (by have:=N2.size;simp;omega) s_;have aQ:Fx w.heap.size [119,2] w (R.alloc<|.cells #[Y 1] 2):=.jS<|N2.trans E;have HI:=O ah;have T:=O hn;have al:=O (show[1]++((ts.drop 0).flatMap λt=>np t.p)=k4 (ts.map Tk.p) by unfold k4;rw[List.flatMap_map];rfl);have n:=hb.1;have a8:=O hb.2;generalize k4 (ts.map Tk.p)=B at*;obtain⟨base,aE⟩:=nm_ w.heap.size;rw[<-aE]at C aQ;have H:w.heap.size<=base:=X;have an:base<=w.heap.size:=X;go_enter func28,ntmps28;go_wp2_with fail;go_at_call 67;refine C.out.mono ?_;rintro e w1⟨rfl,ay,a⟩;have a:=aQ.trans a;go_wp2_with fail;go_loopw [21] (λi wr=>∃(k:Nat) (b:QS),k<=ts.length/\i=Y k/\GA base wr g b/\Hid (b++((ts.drop k).flatMap λt=>np t.p)=B)/\Fx base [119,2] w wr) (λi _=>ts.length-(intOf i).toNat)
 case atStart=>exact⟨0,_,R_ _,gn,ay,al,a⟩
 obtain⟨k,b,hk,rfl,hA,u,d⟩:=hrel;have r:=d.gr w H<|G_ [] w;by_cases U:k<ts.length
 .obtain⟨az,off,ay,hc⟩:=EY N1 U;subst ay;have L:=HI.out _<|P_ U;have bR:=a8.out _<|P_ U;have s:=O (show b++y9 ts[k].p ((ts[k].p.ds.map (·.id))++(m7 ts[k].p.nw++((ts.drop<|k+1).flatMap λt=>np t.p))) 0=B by
   have e:=u.out;rw[W_ U,Hc,wK]at e;exact e)
  obtain⟨F,hR⟩:=mn_<|(ts.drop<|k+1).flatMap λt=>np t.p;rw[hR]at s;have bn:=O hR;generalize ts[k]=t at*
  have dW:∀j,j<48->wr.cell? (Z az<|off+k*48+j)=t.g_[j]?:=λj V=>by
   have h1:=hc j V;have hs:j<t.g_.size:=by rw[Tk.size];exact V
   rw[GQ hs]at h1 |-;exact r.f_ h1 s_
  go_upto_region 6 with(first|(refine Gz dW ?_)|(refine k6 (t.g_) (T_ wr 53 ks) (Tk.one _) ?_;intro S n aG));have aA:J [] wr S:=((G_ [] wr).alloc _).hJ aG (λaB hy=>.inr<|by rw[J_]at hy;omega);have D:=hA.hF aA;have z:=d.trans<|.jS aA;generalize wr.heap.size=gt at*;have av:S.cell? (Z gt 36)=some (.slice t.gs.A t.gs.l.length t.gs.c):=(n.f_ 36).trans rfl;have ar:S.cell? (Z gt 37)=some (.slice t.rs.A t.rs.l.length t.rs.c):=(n.f_ 37).trans rfl;have am:S.cell? (Z gt 38)=some (.slice t.ws.A t.ws.l.length t.ws.c):=(n.f_ 38).trans rfl;go_wp2_with fail;go_loopw [32] (λi wr=>∃(k:Nat) (b:QS),k<=3/\i=Y k/\GA base wr g b/\Hid (b++y9 t.p ((t.p.ds.map (·.id))++(m7 t.p.nw++F)) k=B)/\Bk wr gt 53 t.g_/\Fx base [119,2] w wr) (λi _=>3-(intOf i).toNat)
  case atStart=>exact⟨0,b,X,gn,D,s,n,z⟩
  obtain⟨y,b,hm,rfl,hA,u,n,d⟩:=hrel;have r:=d.gr w H<|G_ [] w;obtain⟨_,s1⟩:=L.gs;obtain⟨_,bT⟩:=L.rs;obtain⟨_,cj⟩:=L.ws;have W:=d.size;have bC:=T.out;by_cases h3:y<3
  .have HG:∀(A:OA) (c:Nat) (I:QV) (K:QS) {e},Sl w e 4 A I.length (I.flatMap Cl.E)->I.length<=1000000000->b++(lj I++K)=B->Hid (Calls prog 68 #[q_ g,.slice A I.length c] wr λe w'=>e=.returned (.tuple #[])/\(∃m,GA base w' g m/\m++K=B)/\Fx base [119,2] wr w'):=
    λA c I K _ hs hl N=>O<|yB (c:=c) hA H r hs X N bC hl
   obtain rfl|rfl|rfl:y=0\/y=1\/y=2:=by omega
   .have C:=HG t.gs.A t.gs.c t.gs.l _ s1 bR.1 u.out;go_wp2_with (first|(refine rP (FX wr).1 ?_)|go_at_call 68;refine C.out.mono ?_;rintro e P⟨rfl,⟨m,D,G⟩,z⟩);go_roundw;exact⟨1,m,X,gn,D,O G,z.bk n,d.trans z⟩;simp[intOf]
   .have C:=HG t.rs.A t.rs.c t.rs.l _ bT bR.2.1 u.out;go_wp2_with (first|(refine rP (FX wr).2.1 ?_)|go_at_call 68;refine C.out.mono ?_;rintro e P⟨rfl,⟨m,D,G⟩,z⟩);go_roundw;exact⟨2,m,X,gn,D,O G,z.bk n,d.trans z⟩;simp[intOf]
   have C:=HG t.ws.A t.ws.c t.ws.l _ cj bR.2.2.1 u.out;go_wp2_with (first|(refine rP (FX wr).2.2 ?_)|go_at_call 68;refine C.out.mono ?_;rintro e P⟨rfl,⟨m,D,G⟩,z⟩);go_roundw;exact⟨3,m,X,gn,D,O G,z.bk n,d.trans z⟩;simp[intOf]
  obtain rfl:y=3:=by omega
  have f:wr.cell? (Z gt 40)=some (.slice t.ds.A t.ds.l.length t.ds.c):=(n.f_ 40).trans rfl;obtain⟨_,c7⟩:=L.ds;obtain⟨_,b8⟩:=L.nw;obtain⟨_,bU⟩:=L.nr;have aC:=O (show b++((t.ds.l.drop 0).map (·.id)++(m7 ((hY t.nw.l).drop 0)++F))=B from u.out);go_wp2_with fail;go_loopw [42] (λi wr=>∃(j:Nat) (b:QS),j<=t.ds.l.length/\i=Y j/\GA base wr g b/\Hid (b++((t.ds.l.drop j).map (·.id)++(m7 ((hY t.nw.l).drop 0)++F))=B)/\Bk wr gt 53 t.g_/\Fx base [119,2] w wr) (λi _=>t.ds.l.length-(intOf i).toNat)
  case atStart=>exact⟨0,b,R_ _,gn,hA,aC,n,d⟩
  obtain⟨j,b,V,rfl,hA,u,n,d⟩:=hrel;have r:=d.gr w H<|G_ [] w;have W:=d.size;by_cases N:j<t.ds.l.length
  .obtain⟨b2,aD,D,bt,bA,bW,bL,bD⟩:=Fk c7 N;have z0:=r.f_ bt s_;have aM:=r.f_ bA s_;have aU:=r.f_ bW s_;have z3:=r.f_ bL s_;have z4:=r.f_ bD s_;have s:=O (show(b++[t.ds.l[j].id])++((t.ds.l.drop<|j+1).map (·.id)++(m7 ((hY t.nw.l).drop 0)++F))=B by
    have e:=u.out;rw[W_ N]at e;rw[<-e];simp only[Hs,Hq,Ip,G0])
   have iS:=B1 s.out;simp only[M_,GI,Hb]at iS;generalize t.ds.l[j]=x at*;generalize t.ds.A=dA at*;subst D;obtain⟨aK,gb,bN,aP,E,aj⟩:=box1 wr 124 #[Y x.id,Y x.f,Y x.op,.bool x.v.r,Y x.v.n];have hq0:=aj.f_ 0;have m:=E.alloc<|.cells #[Y x.id] 2;have C:=O<|p4 (c:=1) (hA.hF m) (Ls.one aK x.id) (ov m.size) (by simp only[GI,Hb];have:=T.out;omega);have q:=O<|n.hF m;have z:=d.trans<|.jS m;go_wp2_with (go_at_call 67;refine C.out.mono ?_;rintro e P⟨rfl,I,K⟩);go_roundw
   case rel=>
    repeat(first|(refine⟨?_,rfl⟩;exact⟨j+1,_,X,gn,I,s,K.bk q.out,z.trans K⟩)|apply Exists.intro)
   case measure=>exact mz
  have aC:=O (show b++(m7 ((hY t.nw.l).drop 0)++F)=B by
   have e:=u.out;rw[H8 (l:=t.ds.l) X]at e;exact e)
  have aF:wr.cell? (Z gt 39)=some (.slice t.nw.A t.nw.l.length t.nw.c):=(n.f_ 39).trans rfl;go_wp2_with fail;go_loopw [55] (λi wr=>∃(j:Nat) (b:QS),j<=t.nw.l.length/\i=Y j/\GA base wr g b/\Hid (b++(m7 ((hY t.nw.l).drop j)++F)=B)/\Fx base [119,2] w wr) (λi _=>t.nw.l.length-(intOf i).toNat)
  case atStart=>exact⟨0,b,R_ _,gn,hA,aC,d⟩
  obtain⟨j,b,V,rfl,hA,u,d⟩:=hrel;have r:=d.gr w H<|G_ [] w;have W:=d.size;by_cases N:j<t.nw.l.length
  .obtain⟨b2,aD,D,bt,bA⟩:=b8.at_ N;obtain⟨hv,bJ⟩:=bU _<|P_ N;have z0:=r.f_ bt s_;have aM:=r.f_ bA s_;have s:=O (show b++(pQ (t.nw.l[j].o.fs.drop 0)++(m7 ((hY t.nw.l).drop<|j+1)++F))=B by
    have e:=u.out;rw[yk<|by rw[ib];exact N]at e;rw[<-e];simp[hY])
   obtain⟨aH,ck⟩:=mn_<|m7 ((hY t.nw.l).drop<|j+1)++F;rw[ck]at s;have M:=O ck;generalize t.nw.l[j]=m at*;generalize t.nw.A=aq at*;subst D;have E:=(G_ [] wr).alloc<|.cells #[Y m.o.id,.slice m.A m.o.fs.length m.c] 56;obtain⟨bq,aY⟩:=(T_ wr 56 #[Y m.o.id,.slice m.A m.o.fs.length m.c]).iN;have I:=hA.hF E;have K:=d.trans<|.jS E;go_wp2_with fail;go_loopw [62] (λi wr=>∃(y:Nat) (b:QS),y<=m.o.fs.length/\i=Y y/\GA base wr g b/\Hid (b++(pQ (m.o.fs.drop y)++aH)=B)/\Fx base [119,2] w wr) (λi _=>m.o.fs.length-(intOf i).toNat)
   case atStart=>exact⟨0,b,R_ _,gn,I,s,K⟩
   obtain⟨y,b,hm,rfl,hA,u,d⟩:=hrel;have r:=d.gr w H<|G_ [] w;have W:=d.size;by_cases h:y<m.o.fs.length
   .obtain⟨b3,aI,I,ca,br⟩:=hv.at_ h;have z0:=r.f_ ca s_;have aM:=r.f_ br s_;have s:=O (show(b++qu m.o.fs[y])++(pQ (m.o.fs.drop<|y+1)++aH)=B by
     have e:=u.out;rw[yj h]at e;rw[<-e];simp only[Hq])
    have iS:=B1 s.out;simp only[M_]at iS;generalize m.o.fs[y]=v at*;generalize m.A=ak at*;subst I;have E:=(G_ [] wr).alloc<|.cells #[.bool v.r,Y v.n] 38;obtain⟨bq,aY⟩:=(T_ wr 38 #[.bool v.r,Y v.n]).iN;have C:=O<|ug (v:=v) (hA.hF E) (ov E.size)<|ov T.out;have K:=d.trans<|.jS E;go_wp2_with (go_at_call 69;refine C.out.mono ?_;rintro e P⟨rfl,I,aJ⟩);go_roundw
    case rel=>
     repeat(first|(refine⟨?_,rfl⟩;exact⟨y+1,_,X,gn,I,s,K.trans aJ⟩)|apply Exists.intro)
    case measure=>exact mz
   go_wp2;go_roundw
   case rel=>exact⟨j+1,b,X,gn,hA,O (by
    have e:=u.out;rw[H8 (l:=m.o.fs) X,<-M.out]at e;exact e),d⟩
   case measure=>exact mz
  go_wp2;go_roundw
  case rel=>exact⟨k+1,b,X,gn,hA,O (by
   have e:=u.out;rw[H8 (l:=hY t.nw.l) (by rw[ib];omega),<-bn.out]at e;exact e),d⟩
  case measure=>exact mz
 have e:=u.out;rw[H8 X]at e;simp only[List.flatMap_nil,IT]at e;subst e;have D:=O<|sK hA T.out<|ov d.size;go_wp2_with (go_at_call 70;refine D.out.mono ?_;rintro e P⟨F,y,rfl,G,m,z⟩);rw[ax.out];exact⟨F,y,rfl,G,m,z.gr w H r⟩
section
open Go.RowKit Go.Shelf
def yc{e:TypeId}(A:OA)(c:Nat)(ys:QS)(x:Int)(w:World)(h:Sl w e 1 A ys.length<|zs ys)(r:ys.Pairwise (· < ·))(u:ys.length<=1000000000):
 Calls prog 113 #[.slice A ys.length c,Y x] w λe w'=>∃k:Int,e=.returned (.tuple #[Y k,.bool<|decide (x∈ys)])/\J [] w w':=by
 rcases Hr ys.length with b|b
 .have t:ys=[]:=G1 b;subst t;refine ig λQ i=>?_;go_enter func113,ntmps113;go_wp2;go_loopw [7,8] (λd m wr=>d=Y 0/\m=Y 0/\J [] w wr) (λ_ _ _=>0)
  case atStart=>exact⟨rfl,gn,G_ _ _⟩
  obtain⟨rfl,rfl,q⟩:=hrel;go_wp2;rw[i.out];exact⟨0,rfl,q⟩
 obtain⟨m,q,rfl,hc⟩:=Sl.f_ h b;have i:=AnyG.slices_BinarySearch_int E1 m q ys.length c ys x w (I_ _) X (λj d=>by
  have:=hc j (Y ys[j]) (by simp[d]);rw[this];simp[List.getD,O_ d]) (by rw[HU];exact r.imp λh=>by omega)
 refine i.mono ?_;rintro e w'⟨rfl,t,rfl⟩;exact⟨_,by rw[HU,List.contains_eq_mem],(G_ [] w).drewN t⟩
def DE{f p:Nat}{A:OA}{c:Nat}{ys:QS}{l:QT}{W:World}(v:Bk W f 27 #[.slice A ys.length c])(y:Bk W s 4 #[.bool rb])(z:Ls W A ys)(L:ys.Pairwise (· < ·))(K:ys.length<=1000000000)(J:po p W l):
 Gb f s (λo=>decide (o.id∈ys) !=rb) p W:=by
 intro o C H w m;obtain⟨X,k,_⟩:=J;have i:∀{g t cs},Bk W g t cs->t≠56->Bk w g t cs:=λ{g t cs} h ht=>h.gr m (λB=>by
  rw[J_]at B;subst B;have:=h.symm.trans k;injection this with this;injection this with _ this;exact ht this)
 have u:=i v I;have d:=i y I;have q:Ls w A ys:=Sl.iy z k I m;refine ig λQ G=>?_;obtain⟨E,g,T,U,b,D⟩:=box1 w 56 #[Y o.id,.slice C o.fs.length H];have P:=D.f_ 0;have V:=(u.hF b).f_ 0;have N:=(d.hF b).f_ 0;have F:=O<|yc A c ys o.id E (Sl.hF q b) L K;have a:=d.hF b;clear v y z k i u d q m;go_enter func112,ntmps112;go_wp2_with (go_at_call 113;refine F.out.mono ?_;rintro e R⟨Z,rfl,r⟩;have S:=(a.hF r).f_ 0);rw[G.out];exact⟨rfl,b.trans r⟩
def uI(A:OA)(c:Nat)(f:Value)(w:World):Calls prog 156 #[.slice A 0 c,f] w λe w'=>e=.returned (Y<|-1)/\w=w':=by
 refine ig λQ d=>?_;go_enter func156,ntmps156;go_wp2;go_loopw [8] (λb wr=>b=Y 0/\w=wr) (λ_ _=>0)
 case atStart=>exact⟨gn,rfl⟩
 obtain⟨rfl,rfl⟩:=hrel;go_wp2;rw[d.out];exact NV
def xl(A:OA)(c:Nat)(f:Value)(w:World):Calls prog 110 #[.slice A 0 c,f] w λe w'=>e=.returned (.slice A 0 c)/\w=w':=by
 refine ig λQ b=>?_;go_enter func110,ntmps110;go_wp2_with (go_at_call 156;refine(uI A c f w).mono ?_;rintro e d⟨rfl,rfl⟩);rw[b.out];exact NV
end
def uU{P:Program}{rest:QZ}{o:Oper}{a:Act}{w:World}{t:TypeId}{f:Nat}{v u:Value}(N:(Instr.field t v f).run P w=.ok u w)(h:wpList P ops Q rest (a.put o.dst u) w)(ao:o.guard=none:=by rfl)(ho:o.op=.field t x f:=by rfl)(hx:a.eval x=v:=by rfl):wpList P ops Q (o::rest) a w:=
 wpList_plain ao λ_ H=>by
  unfold Oper.wp;simp[execOp,ho,hx,N,Result.andThen];exact H _ _ h
def Ew(v:Value)(w:World):(Instr.field 35 (.agg #[v]) 0).run prog w=.ok v w:=k_
structure HM(w:World)(A:OA)(l:QT):Prop where
 os:∃e,wo e w A l
 ll:∃E,uu E w l
 len:l.length<=50000000
 zero:(0:Int)∉ie (hY l)
 wf:∀x∈ie (hY l),m5 x
def HM.hF{w w':World}{A:OA}{l:QT}(h:HM w A l)(c:J [] w w'):HM w' A l:=
 ⟨let⟨e,b⟩:=h.os;⟨e,b.hF c⟩,let⟨e,b⟩:=h.ll;⟨e,b.hF c⟩,h.len,h.zero,h.wf⟩
structure TM(w:World)(A:OA)(ts:QE):Prop where
 row:∃e,Sl w e 48 A ts.length<|ts.flatMap λt=>t.g_.toList
 y0:∀t∈ts,AN w t
 few:(k4<|ts.map Tk.p).length<=1000000000
 len:ts.length<=1000000000
 lens:∀t∈ts,t.gs.l.length<=1000000000/\t.rs.l.length<=1000000000/\t.ws.l.length<=1000000000/\t.ds.l.length<=1000000000/\t.nw.l.length<=1000000000
def AN.hF{w w':World}{t:Tk}(h:AN w t)(c:J [] w w'):AN w' t:=
 ⟨let⟨e,b⟩:=h.gs;⟨e,Sl.hF b c⟩,let⟨e,b⟩:=h.rs;⟨e,Sl.hF b c⟩,let⟨e,b⟩:=h.ws;⟨e,Sl.hF b c⟩,let⟨e,b⟩:=h.ds;⟨e,Sl.hF b c⟩,let⟨e,b⟩:=h.nw;⟨e,b.hF c⟩,let⟨e,b⟩:=h.nr;⟨e,b.hF c⟩⟩
def TM.hF{w w':World}{A:OA}{ts:QE}(h:TM w A ts)(b:J [] w w'):TM w' A ts:=
 ⟨let⟨e,d⟩:=h.row;⟨e,Sl.hF d b⟩,λi c=>(h.y0 i c).hF b,h.few,h.len,h.lens⟩
def TM.roots{w:World}{A:OA}{ts:QE}(h:TM w A ts)(c:Nat):Calls prog 28 #[.slice A ts.length c] w (pu (oA<|k4<|ts.map Tk.p) w):=by
 obtain⟨e,b⟩:=h.row;exact zZ A c ts w b h.y0 h.few ⟨h.len,h.lens⟩
def HM.reach{w:World}{A:OA}{l:QT}(h:HM w A l)(c:Nat){e:TypeId}{b:OA}(d:Nat){rs:QS}(m:Sl w e 1 b rs.length<|zs rs)(k:rs.length<=1000000000):Calls prog 35 #[.agg #[.slice A l.length c],.slice b rs.length d] w (pu (qJ (hY l) rs) w):=by
 obtain⟨e,q⟩:=h.os;obtain⟨r,i⟩:=h.ll;exact yp A c l b d rs w q i h.len h.zero h.wf m k
def y6{l:QS}:(oA l).length<=l.length:=ri _ (mA l).nodup λx b=>((mA l).mem x).1 b
def Do(h:QQ)(ts:QA):(lb h ts).length<=h.length:=by
 have:=ri (lb h ts) (l:=ie h) (kz _ _).nodup λx b=>(((kz _ _).mem x).1 b).ids;simpa[ie]using this
noncomputable def tQ (h:QQ) (ts:QA) (rb:Bool) (o:Ob):Bool:= !(decide (o.id∈lb h ts) !=rb)
def wW{hA TA:OA}{hc tc:Nat}{l:QT}{ts:QE}{w:World}(K:HM w hA l)(N1:TM w TA ts):
 Calls prog 73 #[.agg #[.slice hA l.length hc],.slice TA ts.length tc,.bool rb] w λe w'=>∃(A':OA) (c':Nat) (T:QT),e=.returned (.slice A' T.length c')/\hY T=(hY l).filter (tQ (hY l) (ts.map Tk.p) rb)/\Os w' A' T/\nv w' T/\T.length<=l.length/\J [] w w':=by
 refine ig λQ ax=>?_;obtain⟨v,g,al,aW,hg,r,N2,hB,br⟩:=uN w 35 #[.slice hA l.length hc] 4 #[.bool rb];obtain⟨a,U⟩:=mn_<|lb (hY l)<|ts.map Tk.p;have bO:=O (show a.length<=50000000/\a.Pairwise (· < ·) from⟨by rw[<-U];have:=Do (hY l)<|ts.map Tk.p;have:=K.len;rw[ib]at*;omega,by rw[<-U];exact(kz _ _).lt⟩);have an:=O (show ∀o,tQ (hY l) (ts.map Tk.p) rb o= !(decide (o.id∈a) !=rb) from λo=>by unfold tQ;rw[U]);have aN:Hid (∀(w':World),J [] v w'->∀(ao:OA) (ap:Nat),Ls w' ao (oA<|k4<|ts.map Tk.p)->Calls prog 35 #[.agg #[.slice hA l.length hc],.slice ao (oA<|k4<|ts.map Tk.p).length ap] w' (pu a w')):=O (λw' h ao ap hb=>by rw[<-U];exact(K.hF<|N2.trans h).reach hc ap hb<|H_ (y6) N1.few);have bn:=O λ(w':World)(h:J [] v w')=>(N1.hF<|N2.trans h).roots tc;generalize oA (k4<|ts.map Tk.p)=rs at*;clear U;go_enter func73,ntmps73;go_upto_region 1 with fail;go_cut [7] (λp aX=>∃(x:Nat) (A:OA) (aq:Nat),p=q_ x/\Bk aX x 27 #[.slice A a.length aq]/\Ls aX A a/\J [] v aX)
 case first=>
  refine hS (λw'=>w'.cell? (Z g 0)=some (.slice hA l.length hc)) 6 k_ ?_;obtain⟨ar,b7⟩:=nm_ v.drew;have j:J [] v ar:=by rw[b7];exact(G_ [] v).drew
  rw[<-b7];clear b7;have C:=hB.hF j;have au:=j;refine m6 (C.f_ 0) λi=>?_;refine iC 0 i ?_;refine iC 1 i ?_;refine x4 2 4 (λd c=>?_) λd c=>?_
  .go_simp;go_at_call 28;refine(bn.out _ au).mono ?_;unfold pu;rintro e V⟨B,z,rfl,H, -,r⟩;have u:=au.trans r;have n:=C.hF r;refine hZ c (n.f_ 0) λi=>?_;refine x4 3 4 (λd c=>?_) (λd c=>?_)
   .go_simp;go_at_call 35;refine(aN.out _ u B z H).mono ?_;unfold pu;rintro e W⟨av,aG,rfl,k, -,m⟩;have cI:=u.trans m;have Y:=n.hF m;refine hZ c (Y.f_ 0) λi=>?_;refine h4 4 λd c=>?_;go_simp;obtain⟨G,x,R,S,t,q⟩:=box1 W 27 #[n_];refine hZ c ((Y.hF<|(G_ [] W).alloc _).f_ 0) λi=>?_;have L:g≠x:=ov Y.lt;have aB:v.heap.size<=x:=ov cI.size;have E:=cI.trans t;have P:=Y.hF t;have ay:=Sl.hF k t;rw[R,S]at*
    refine h4 5 λd c=>?_;have aR:=q.f_ 0;have bE:=q.hG 0;go_simp;have M:J [x] G (G.setCell (Z x 0)<|.slice av a.length aG):=(G_ [x] G).setCell (p:=Z x 0) (.inl s_) _;refine hZ c ((P.gr M<|by rw[J_];exact L).f_ 0) λi=>?_;refine hN k_ ?_ _;go_wp2;go_meet;exact⟨x,av,aG,rfl,by simpa using q.hW 0 (.slice av a.length aG),Sl.iy ay q I M,E.hJ M λy hy=>.inr<|by rw[J_]at hy;omega⟩
   go_simp;obtain⟨G,x,R,S,t,q⟩:=box1 V 27 #[n_];refine hZ c ((n.hF<|(G_ [] V).alloc _).f_ 0) λi=>?_;clear c d;have L:g≠x:=ov n.lt;have aB:v.heap.size<=x:=ov u.size;have E:=u.trans t;have P:=n.hF t;have ay:Ls G B _:=Sl.hF H t;rw[R,S]at*
   refine h4 3 λd c=>?_;go_simp;go_at_call 35;refine(aN.out _ E B z ay).mono ?_;unfold pu;rintro e D⟨av,aG,rfl,k, -,m⟩;have F:=E.trans m;have N:=P.hF m;have b:=q.hF m;refine hZ c (N.f_ 0) λi=>?_;clear c d;refine h4 5 λd c=>?_;have aR:=b.f_ 0;have bE:=b.hG 0;go_simp;have M:J [x] D (D.setCell (Z x 0)<|.slice av a.length aG):=(G_ [x] D).setCell (p:=Z x 0) (.inl s_) _;refine hZ c ((N.gr M<|by rw[J_];exact L).f_ 0) λi=>?_;clear c d;exact K7
  go_simp;obtain⟨G,x,R,S,t,q⟩:=box1 ar 27 #[n_];refine hZ c ((C.hF<|(G_ [] ar).alloc _).f_ 0) λi=>?_;clear c d;have L:g≠x:=ov C.lt;have aB:v.heap.size<=x:=ov au.size;have E:=au.trans t;have P:=C.hF t;rw[R,S]at*
  refine h4 2 λd c=>?_;go_simp;go_at_call 28;refine(bn.out _ E).mono ?_;unfold pu;rintro e V⟨B,z,rfl,H, -,r⟩;have u:=E.trans r;have n:=P.hF r;have Y:=q.hF r;refine hZ c (n.f_ 0) λi=>?_;refine h4 3 λd c=>?_;go_simp;go_at_call 35;refine(aN.out _ u B z H).mono ?_;unfold pu;rintro e D⟨av,aG,rfl,k, -,m⟩;have F:=u.trans m;have N:=n.hF m;have b:=Y.hF m;refine hZ c (N.f_ 0) λi=>?_;refine h4 5 λd c=>?_;have aR:=b.f_ 0;have bE:=b.hG 0;go_simp;have M:J [x] D (D.setCell (Z x 0)<|.slice av a.length aG):=(G_ [x] D).setCell (p:=Z x 0) (.inl s_) _;refine hZ c ((N.gr M<|by rw[J_];exact L).f_ 0) λi=>?_;exact K7
 obtain⟨x,A,aq,rfl,C,Y,s⟩:=hcut;obtain⟨w1,N⟩:=nm_ wc;rw[<-N]at C Y s |-;clear N;have j:=N2.trans s;have D:=K.hF j;obtain⟨_,P⟩:=D.os;obtain⟨_,f⟩:=D.ll;have E:=hB.hF s;have ag:=br.hF s;have aA:=E.f_ 0;have HD:=O<|xk hA hc l w1 P f<|ov K.len;have aH:=K.len;clear P f D E hB br
 go_wp2_with fail;go_at_call 111;refine HD.out.mono ?_;rintro e V⟨B,z,l2,rfl,t,af,R,aC,r⟩;have aD:=O t;have u:=j.trans r;have cv:=C.hF r;have bD:=ag.hF r;have H:=Sl.hF Y r;have bN:l2.length=l.length:=by have:=GG List.length t;rwa [ib,ib]at this
 rcases Hr l.length with c|c
 .have d:l=[]:=G1 c;subst d;have aZ:=O<|xl B z (.func (.func 112) #[] #[q_ x,q_ al]) V;go_wp2_with (first|(refine uU (Ew _ _) ?_)|go_at_call 110;refine aZ.out.mono ?_;rintro e W⟨rfl,rfl⟩);rw[ax.out];exact⟨B,z,[],rfl,by simp[hY],⟨rfl,λh=>GR h<|Nat.lt_irrefl 0⟩,λaE i=>(by cases i),I_ _,u⟩
 obtain⟨p,rfl,ak,d⟩:=R c;have aF:=DE cv bD H bO.out.2 (ov bO.out.1) d;have ad:=O<|xm aF d bN X af;clear t R aF;go_wp2_with (first|(refine uU (Ew _ _) ?_)|go_at_call 110;refine ad.out.mono ?_;rintro e W⟨S,rfl,k,am,m⟩;have L:=O k;clear k);rw[ax.out];have G:S.Sublist l2:=by rw[L.out];exact Jd
 refine⟨j_ p,z,S,rfl,?_,am,λaE i=>?_,ov G.length_le,u.hJ m λy hy=>.inr (by rw[J_]at hy;have:=j.size;omega)⟩;rw[show(hY l).filter (tQ (hY l) (ts.map Tk.p) rb)=(hY l).filter (λo=> !(decide (o.id∈a) !=rb)) from List.filter_congr λo _=>an.out o,<-aD.out,L.out];unfold hY;rw[List.filter_map];rfl;have aT:=aC aE<|G.subset i;exact⟨d.vs m aT.1,aT.2⟩



def Ea(x y:Vl)(w:World)(h:x=y):(binOp .neq 38 (.agg<|V_ x)<|.agg<|V_ y).run prog w=.ok (.bool false) w:=by
 subst h;obtain⟨c,b⟩:=x;go_simp
def Bx(A t:OA)(c d:Nat)(i:Int)(l:QB)(w:World)(h:Vs w A l)(k:Vs w t l)(hl:l.length<=1000000000):
 Calls prog 109 #[.agg #[Y i,.slice A l.length c],.agg #[Y i,.slice t l.length d]] w λe w'=>e=.returned (.bool true)/\J [] w w':=by
 refine ig λQ T=>?_;obtain⟨v,g,W,aW,hg,N3,u,V,U⟩:=uN w 56 #[Y i,.slice A l.length c] 56 #[Y i,.slice t l.length d];obtain⟨S,H⟩:=V.iN;obtain⟨z0,G⟩:=U.iN;have hA:=Sl.hF h u;have s:=Sl.hF k u;go_enter func109,ntmps109;go_wp2;go_loopw [23] (λy wr=>∃i:Nat,i<=l.length/\y=Y i/\J [] v wr) (λy _=>l.length-(intOf y).toNat)
 case atStart=>exact⟨0,R_ _,gn,G_ _ _⟩
 obtain⟨i,hi,rfl,q⟩:=hrel;by_cases I:i<l.length
 .obtain⟨B,D,R,L,N⟩:=(show Vs wr A l from Sl.hF hA q).at_ I;obtain⟨C,E,P,K,O⟩:=(show Vs wr t l from Sl.hF s q).at_ I;have z:=q.f_ H s_;have F:=q.f_ G s_;rw[R]at z;rw[P]at F;generalize l[i]=r at*
  have aj:=λv=>Ea r r v rfl;go_upto_region 6 with fail;refine hS (λw'=>w'.cell? (Z B<|D+i*2)=some (.bool r.r)/\w'.cell? (Z B<|D+i*2+1)=some (Y r.n)/\w'.cell? (Z C<|E+i*2)=some (.bool r.r)/\w'.cell? (Z C<|E+i*2+1)=some (Y r.n)/\w'.cell? (Z g 1)=some (.slice (some<|Z B D) l.length c)/\w'.cell? (Z W 1)=some (.slice (some<|Z C E) l.length d)) 11 k_ ?_;have m:J [] wr wr.drew:=(G_ [] wr).drew;refine m6 ⟨m.f_ L s_,m.f_ N s_,m.f_ K s_,m.f_ O s_,m.f_ z s_,m.f_ F s_⟩ λb=>?_;clear L N K O z F S H z0 G;refine iC 0 b ?_;refine iC 1 b ?_;refine iC 2 b ?_;refine iC 3 b ?_;refine iC 4 b ?_;refine iC 5 b ?_;refine iC 6 b ?_;refine iC 7 b ?_;refine iC 8 b ?_;refine iC 9 b ?_;refine iC 10 b ?_;refine hN k_ ?_ _;go_wp2;go_roundw;exact⟨i+1,X,gn,q.trans m⟩;exact mz
 go_wp2;rw[T.out];exact⟨rfl,u.trans q⟩
def zV(A v:OA)(c d:Nat)(l k:QT)(w:World)(ar:Os w A l)(hR:nv w l)(j:Os w v k)(m:nv w k)(L:hY l=hY k)(hl:l.length<=1000000000):
 Calls prog 72 #[.slice A l.length c,.slice v l.length d] w λe w'=>e=.returned (.bool true)/\J [] w w':=by
 refine ig λQ ax=>?_;have bO:k.length=l.length:=by rw[<-ib,<-ib,L]
 have W:=O (show ∀(b:Nat) (I:b<l.length) (K:b<k.length),k[b].o=l[b].o from λb I K=>by
  have e:(hY l)[b]?=(hY k)[b]?:=by rw[L]
  simp[hY,O_ I,O_ K]at e;exact e.symm)
 go_enter func72,ntmps72;go_wp2;go_loopw [13] (λB wr=>∃b:Nat,b<=l.length/\B=Y b/\J [] w wr) (λB _=>l.length-(intOf B).toNat)
 case atStart=>exact⟨0,R_ _,gn,G_ _ _⟩
 obtain⟨b,hi,rfl,r⟩:=hrel;by_cases z:b<l.length
 .obtain⟨G,N,V,P,R⟩:=(show Os wr A l from Sl.hF ar r).at_ z;have y:b<k.length:=X;obtain⟨H,S,T,C,D⟩:=(show Os wr v k from Sl.hF j r).at_ y;subst V;subst T;obtain⟨hv,bJ⟩:=hR.hF r _<|P_ z;obtain⟨g, -⟩:=m.hF r _<|P_ y;rw[W.out b z y]at C D g;generalize k[b].A=a at*;generalize k[b].c=f at*;generalize l[b]=i at*;have F:=O λ(w':World)(h:J [] wr w')=>Bx i.A a i.c f i.o.id i.o.fs w' (Sl.hF hv h) (Sl.hF g h) bJ;go_upto_region 6 with fail;refine hS (λw'=>w'.cell? (Z G<|N+b*2)=some (Y i.o.id)/\w'.cell? (Z G<|N+b*2+1)=some (.slice i.A i.o.fs.length i.c)/\w'.cell? (Z H<|S+b*2)=some (Y i.o.id)/\w'.cell? (Z H<|S+b*2+1)=some (.slice a i.o.fs.length f)) 10 k_ ?_;have t:J [] wr wr.drew:=(G_ [] wr).drew;refine m6 ⟨t.f_ P s_,t.f_ R s_,t.f_ C s_,t.f_ D s_⟩ λq=>?_;have M:=O<|F.out _ t;clear P R C D F;(iterate 8 refine j8 q ?_);refine h4 8 λU E=>?_;go_simp;go_at_call 109;refine M.out.mono ?_;rintro e ad⟨rfl,u⟩;refine hZ E ⟨u.f_ q.1 s_,u.f_ q.2.1 s_,u.f_ q.2.2.1 s_,u.f_ q.2.2.2 s_⟩ λq=>?_;clear E U;refine iC 9 q ?_;refine hN k_ ?_ _;go_wp2;go_roundw;exact⟨b+1,X,gn,(r.trans t).trans u⟩;exact mz
 go_wp2;rw[ax.out];exact⟨rfl,r⟩
