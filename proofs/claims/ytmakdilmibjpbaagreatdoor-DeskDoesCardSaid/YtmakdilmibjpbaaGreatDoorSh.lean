/- Short names for tactic blocks. -/
import Derived.KernelRfl
import Derived.WalkKit
namespace Go.Proofs.YtmakdilmibjpbaaGreatDoor
open Go Go.RowKit
theorem Zg{p:Prop}(h:p:=by first | rfl | exact (by first | rfl | assumption | (simp only [List.drop_zero, List.length_map]; assumption) | (simp [*]; done))):p:=h
theorem Zh{p:Prop}(h:p:=by exact (Tk.all (by first | rfl | assumption | (simp only [List.drop_zero, List.length_map]; assumption) | (simp [*]; done)))):p:=h
theorem Zi{p:Prop}(h:p:=by first | rfl | exact (by first | rfl | simp [vI, Value.oneCell'])):p:=h
theorem Za{p:Prop}(h:p:=by repeat (first | exact Ent.rfl | exact Ent.one Ent.h | exact Ent.one (SelS.ent) | exact Ent.nil | exact Ent.left | refine Ent.dropR ?_ | refine Ent.tr Ent.skip ?_)):p:=h
theorem Zb{p:Prop}(h:p:=by repeat (first | exact Ent.rfl | exact Ent.one Ent.h | exact Ent.one (SelS.ent) | exact Ent.nil | exact Ent.left | refine Ent.dropR ?_)):p:=h
theorem Zc{p:Prop}(h:p:=by first | exact fun _ => rfl | exact id | exact fun h => (Bool.and_eq_true_iff.1 h).1 | simp_all):p:=h
theorem Zd{p:Prop}(h:p:=by first | rfl | (simp only [List.length_map, List.length_cons, List.length_nil]; omega) | (simp [*]; done) | (simp [*]; rfl)):p:=h
theorem Ze{p:Prop}(h:p:=by first | rfl | assumption | (simp only [List.drop_zero, List.length_map]; assumption) | (simp [*]; done)):p:=h
theorem Zf{p:Prop}(h:p:=by refine fun h => ⟨?_, ?_⟩ <;> first | rfl | exact h | exact (Bool.and_eq_true_iff.1 h).1 | simp_all):p:=h
theorem Zk{p:Prop}(h:p:=by kernel_rfl):p:=h
theorem Zo{p:Prop}(h:p:=by omega):p:=h
theorem Zr{p:Prop}(h:p:=by repeat constructor):p:=h
theorem Zx{p:Prop}(h:p:=by first | rfl | exact rfl):p:=h
theorem Zl{p:Prop}(h:p:=by (try simp only [List.length_append, List.length_cons, List.length_nil]); omega):p:=h
theorem Zm{p:Prop}(h:p:=by simp; omega):p:=h
theorem Zn{p:Prop}(h:p:=by simp only [List.length_append, List.length_cons, List.length_nil]; omega):p:=h
theorem Zq{p:Prop}(h:p:=by exact (Tk.all rfl)):p:=h
theorem Zs{p:Prop}(h:p:=by simp):p:=h
theorem Zt{p:Prop}(h:p:=by rfl):p:=h
theorem Zu{p:Prop}(h:p:=by dsimp only; omega):p:=h
theorem Zv{p:Prop}(h:p:=by decide):p:=h
end Go.Proofs.YtmakdilmibjpbaaGreatDoor
