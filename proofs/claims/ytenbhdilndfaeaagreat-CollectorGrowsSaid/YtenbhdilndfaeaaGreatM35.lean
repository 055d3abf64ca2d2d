import Derived.Test.YtenbhdilndfaeaaGreatM28
import Derived.Carry
import Derived.Lib.SlKeysI
import Derived.Lib.SlMapFilter
import Derived.Maps.Own
import Derived.Maps.RangeWalk
import Derived.Maps.Views
set_option maxRecDepth 100000
set_option maxHeartbeats 0
set_option linter.all false
namespace Go.Proofs.YtenbhdilndfaeaaGreat
open Go.RowKit Go.Proofs.Tryz
variable{D:DataW Unit}{P:Int->Prop}{ys:List Int}
section
open Go.RowKit Go.Maps
structure qP(D:DataW Unit)(P:Int->Prop):Prop where
 o2:∃es,D=.map es/\es.Pairwise (λp q=>p.1≠q.1)/\∀p∈es,∃x,p.1=.int .i64 x
 has:∀x,Maps.has D (.int .i64 x)=true↔P x
theorem qP.empty:qP (.map []) (λ_=>False):=⟨⟨[],rfl,List.Pairwise.nil,λp hp=>by cases hp⟩,λx=>by simp[Maps.has]⟩
theorem qP.congr{a:Int->Prop}(h:qP D P)(hp:∀x,P x↔a x):qP D a:=⟨h.o2,λx=>(h.has x).trans (hp x)⟩
theorem qP.put(h:qP D P)(n:Int)(d:DataW Unit):qP (D.put (.int .i64 n) d) (λx=>P x∨x=n):=by
 obtain⟨es,rfl,hp,hk⟩:=h.o2;have O:Maps.Tidy (DataW.map es):=⟨es,rfl,hp⟩
 have H:WideAt.IsKeyLit (.int .i64 n):=by simp[WideAt.IsKeyLit]
 obtain⟨a,aG,aS⟩:=O.put H d;refine⟨⟨a,aG,aS,λp hp=>?_⟩,λx=>?_⟩
 .have bQ:=by
   have:DataW.map a=.map (DataW.insert (.int .i64 n,d) (es.filter λp=> !p.1.sameKey (.int .i64 n))):=aG.symm
   injection this
  rw[bQ]at hp
  rcases L_.1 ((WideShapes.insert_perm _ _).mem_iff.1 hp)with rfl|hp
  .exact⟨n,rfl⟩
  .exact hk p (Gm.1 hp).1
 .by_cases e:x=n
  .subst e;simp[Maps.has_put_same O.isMap H]
  .rw[Maps.has_put_other (by intro h;injection h with _ h;exact e h)];rw[h.has];simp[e]
theorem qP.perm(h:qP D P)(hy:Asc ys P):ys.Perm (intKeys D):=by
 obtain⟨es,rfl,hp,hk⟩:=h.o2
 exact perm_intKeys hp hk hy.nodup λx=>(hy.mem x).trans (h.has x).symm
theorem qP.size(h:qP D P)(hy:Asc ys P):Maps.size D=ys.length:=by
 have h1:=(h.perm hy).length_eq;obtain⟨es,rfl,hp,hk⟩:=h.o2;rw[h1]
 show es.length=(es.map _).length
 rw[E5]
end
end Go.Proofs.YtenbhdilndfaeaaGreat
