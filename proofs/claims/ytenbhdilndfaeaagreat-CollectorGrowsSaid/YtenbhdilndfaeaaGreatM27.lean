import Derived.Test.YtenbhdilndfaeaaGreatM06
set_option maxRecDepth 100000
set_option maxHeartbeats 0
set_option linter.all false
namespace Go.Proofs.YtenbhdilndfaeaaGreat
open Go.RowKit Go.Proofs.Tryz
variable{w:World}{A:OA}{l:List Rw}{k:Nat}
def u3(e:TypeId)(w:World)(A:OA)(l:List Rw):Prop:=Sl w e 2 A l.length (jl l)
def xz(e:TypeId)(w:World)(A:OA)(l:List Vl):Prop:=Sl w e 2 A l.length (jd l)
def tB(E:Rw->TypeId)(w:World)(l:List Rw):Prop:=∀r∈l,xz (E r) w r.A r.o.fs/\r.o.fs.length<=1000000000
theorem u3.hG{e:TypeId}{w':World}(h:u3 e w A l)(hg:Gr [] w w'):u3 e w' A l:=Sl.hG h hg
theorem xz.hG{e:TypeId}{w':World}{l:List Vl}(h:xz e w A l)(hg:Gr [] w w'):xz e w' A l:=Sl.hG h hg
theorem tB.hG{E:Rw->TypeId}{w':World}(h:tB E w l)(hg:Gr [] w w'):tB E w' l:=λr hr=>⟨(h r hr).1.hG hg,(h r hr).2⟩
theorem u3.alloc{e:TypeId}(h:u3 e w A l)(o:Obj):u3 e (w.alloc o) A l:=Sl.alloc h o
theorem xz.alloc{e:TypeId}{l:List Vl}(h:xz e w A l)(o:Obj):xz e (w.alloc o) A l:=Sl.alloc h o
theorem xz.drew{e:TypeId}{l:List Vl}(h:xz e w A l):xz e w.drew A l:=h
theorem Os.e(h:Os w A l):u3 56 w A l:=h
theorem oa.e(h:oa w l):tB (λ_=>38) w l:=h
theorem xz.at_{e:TypeId}{l:List Vl}(h:xz e w A l)(hk:k<l.length):
 ∃b off,A=some (c_ b off)/\w.cell? (c_ b (off+k*2))=some (.bool l[k].r)/\w.cell? (c_ b (off+k*2+1))=some (i_ l[k].n):=by
 exact Jn
theorem u3.at_{e:TypeId}(h:u3 e w A l)(hk:k<l.length):
 ∃b off,A=some (c_ b off)/\w.cell? (c_ b (off+k*2))=some (i_ l[k].o.id)/\w.cell? (c_ b (off+k*2+1))=some (.slice l[k].A l[k].o.fs.length l[k].c):=by
 exact Jo
end Go.Proofs.YtenbhdilndfaeaaGreat
