/- Lemmas for fnExactCountOrders_holds. Conditions: none. -/
import Derived.Test.YtchhbpkkonklnaaGreatP13
import Derived.StillTailTactics
import Derived.Lib.Small
import Derived.Lib.Walk
set_option linter.all false
set_option maxHeartbeats 8000000
set_option maxRecDepth 100000
namespace Go.Proofs
open Go.Shelf Go.RowKit Go.Lib Go.Sort
theorem Tryz.cmp64(x y:Int)(W:World):Calls Tryz.prog 200 #[.int .i64 x,.int .i64 y] W fun e w'=>e= .returned (.int .i64 (Lib.compareInt x y))/\w'=W:=
 AnyG.cmp_Compare_int Tryz.cmpI64 x y W
theorem Tryz.orTwo(b:Nat)(x y:Int)(W:World)(h0:W.cell? ⟨b,0,none⟩=some (.int .i64 x))(h1:W.cell? ⟨b,1,none⟩=some (.int .i64 y)):
 Calls Tryz.prog 199 #[.slice (some ⟨b,0,none⟩) 2 2] W fun e w'=>e= .returned (.int .i64 (if x=0 then y else x))/\w'=W:=by
 go_enter Tryz.func199,Tryz.ntmps199
 go_wp2
 refine wp_loop_rounds 3 ?_;rw[rounds_succ]
 go_wp2
 all_goals (try rw[rounds_succ])
 all_goals (try go_wp2)
 all_goals (try rw[rounds_succ])
 all_goals (try go_wp2)
 all_goals (go_ret;refine⟨?_,rfl⟩;simp_all)
theorem two_cells(W:World)(a b a' b':Value)(T:TypeId):
 let w3:=((W.alloc (Obj.cells #[a,b] T)).alloc (Obj.cells #[a',b'] T)).drew
 w3.cell? ⟨W.heap.size,0,none⟩=some a/\w3.cell? ⟨W.heap.size,1,none⟩=some b/\w3.cell? ⟨W.heap.size+1,0,none⟩=some a'/\w3.cell? ⟨W.heap.size+1,1,none⟩=some b'/\
  ∃os0,w3=grow (W.drewN 1) os0:=by
 have e:((W.alloc (Obj.cells #[a,b] T)).alloc (Obj.cells #[a',b'] T)).drew=grow (W.drewN 1) #[Obj.cells #[a,b] T,Obj.cells #[a',b'] T]:=by
  rw[alloc_eq_grow,alloc_eq_grow,grow_grow];rfl
 have h0:(W.heap++ #[Obj.cells #[a,b] T,Obj.cells #[a',b'] T])[W.heap.size]? =some (Obj.cells #[a,b] T):=by
  rw[ZdU (Zal _),Zci];rfl
 have h1:(W.heap++ #[Obj.cells #[a,b] T,Obj.cells #[a',b'] T])[W.heap.size+1]? =some (Obj.cells #[a',b'] T):=by
  rw[ZdU (Nat.le_succ _),show W.heap.size.succ - W.heap.size=1 by omega];rfl
 simp only[e];refine⟨?_,?_,?_,?_,_,rfl⟩<;>unfold World.cell? <;>simp only[grow,World.drewN,h0,h1]<;>rfl
theorem Qvb(w:World)(a b:Value)(T:TypeId):(w.alloc (Obj.cells #[a,b] T)).cell? ⟨w.heap.size,0,none⟩=some a/\(w.alloc (Obj.cells #[a,b] T)).cell? ⟨w.heap.size,1,none⟩=some b:=by
 have h0:(w.heap.push (Obj.cells #[a,b] T))[w.heap.size]? =some (Obj.cells #[a,b] T):=by simp
 constructor<;>unfold World.cell? <;>simp only[World.alloc,h0]<;>rfl
def Qabu(p q:Int×Int):Int:=if Lib.compareInt p.2 q.2=0 then Lib.compareInt p.1 q.1 else Lib.compareInt p.2 q.2
theorem Tryz.cmpPoints(x y x' y':Int)(W:World):Calls Tryz.prog 181 #[.agg #[.int .i64 x,.int .i64 y],.agg #[.int .i64 x',.int .i64 y']] W fun e w'=>
 e= .returned (.int .i64 (Qabu (x,y) (x',y')))/\ ∃q os',w'=grow (W.drewN q) os':=by
 have hc1:=fun W'=>Tryz.cmp64 y y' W'
 have hc2:=fun W'=>Tryz.cmp64 x x' W'
 unfold Qabu;simp only;generalize Lib.compareInt y y'=r1 at hc1⊢;generalize Lib.compareInt x x'=r2 at hc2⊢;have hor:=fun (b:Nat) W'=>Tryz.orTwo b r1 r2 W'
 generalize (if r1=0 then r2 else r1)=r at hor⊢
 go_enter Tryz.func181,Tryz.ntmps181
 go_wp2
 refine wp_region_still_tail 10 (by kernel_rfl) (by kernel_rfl) ?_;simp only[ZbJ,ZbL,ZbS,ZbI];obtain⟨d1,d2,d3,d4,hg⟩:=two_cells W (.int .i64 x) (.int .i64 y) (.int .i64 x') (.int .i64 y') 80;change wpStill _ _ ((W.alloc (Obj.cells #[Value.int IntKind.i64 x,Value.int IntKind.i64 y] 80)).alloc (Obj.cells #[Value.int IntKind.i64 x',Value.int IntKind.i64 y'] 80)).drew (fun a'=>wpList _ _ _ _ a' ((W.alloc (Obj.cells #[Value.int IntKind.i64 x,Value.int IntKind.i64 y] 80)).alloc (Obj.cells #[Value.int IntKind.i64 x',Value.int IntKind.i64 y'] 80)).drew) _ _;generalize ((W.alloc (Obj.cells #[Value.int IntKind.i64 x,Value.int IntKind.i64 y] 80)).alloc (Obj.cells #[Value.int IntKind.i64 x',Value.int IntKind.i64 y'] 80)).drew=w3 at d1 d2 d3 d4 hg⊢
 still_step
 still_step
 still_step
 still_step
 still_call (hc1 _)
 still_step
 still_step
 still_step
 still_step
 still_call (hc2 _)
 refine wpStill_nil ?_
 go_wp2_with (go_at_call 199;refine (hor _ _ (Qvb _ _ _ _).1 (Qvb _ _ _ _).2).mono ?_;rintro e w' ⟨rfl,rfl⟩)
 go_ret
 obtain⟨os0,rfl⟩:=hg;exact⟨rfl,1,_,by rw[alloc_eq_grow,grow_grow]⟩
theorem Tryz.cmpPlaced90(x y t x' y' t':Int)(W:World):Calls Tryz.prog 180 #[.agg #[.int .i64 x,.int .i64 y,.int .i64 t],.agg #[.int .i64 x',.int .i64 y',.int .i64 t']] W fun e w'=>
 e= .returned (.int .i64 (Qabu (x,y) (x',y')))/\ ∃q os',w'=grow (W.drewN q) os':=by
 have hcon:=fun W'=>Tryz.cmpPoints x y x' y' W'
 generalize Qabu (x,y) (x',y')=r at hcon⊢
 go_enter Tryz.func180,Tryz.ntmps180
 go_wp2_with (go_at_call 181;refine (hcon _).mono ?_;rintro e w' ⟨rfl,q,os',rfl⟩)
 go_ret
 exact⟨rfl,q,_,by rw[alloc_eq_grow,alloc_eq_grow,grow_grow];show grow (grow (W.drewN q) _) os'=_;rw[grow_grow]⟩
end Go.Proofs
