-- made for this claim by a program of this session
import Derived.Test.YteaomckihokakaaProg
import Derived.Below
import Derived.Deep.Draws
import Derived.Deep.AppendLies
import Derived.Maps.AppendAt
import Derived.OwnWalk
import Derived.Laws.BytesArg
import Derived.Laws.MakeOwn
import Derived.Laws.OwnMore
import Derived.Deep.OwnRows
import Derived.Tactics
import Derived.Lib.ConvBytes
import Derived.Laws.Slices
import Derived.WalkKit
import Derived.KernelRfl
import Derived.RowKit3
import Derived.Deep.LoopGhost
import Derived.Deep.QuietTactic
import Derived.BigQuiet
import Derived.WideLaws
import Derived.Deep.DeepCutAuto
import Derived.Deep.CutBlock
import Derived.Deep.RegionHeld3
import Derived.Laws.Rows
import Derived.Lib.AppendStr
import Derived.ArgAppend
import Derived.Laws.IdiomCopy
import Derived.OrdersHeld
import Derived.Laws.BitsLemmas
import Derived.RowKit
import Derived.Lib.Hide
import Derived.Lib.SliceRun
import Derived.Shelf.Abstract
import Derived.Shelf.Spec.SlicesGrow
import Derived.Shelf.SortM.Plain
import Derived.Shelf.SortM.SortNone
import Derived.Shelf.SlSortCmp.NoneTotal
import Derived.Shelf.SlSortCmp.WholeK
import Derived.Test.YteaomckihokakaaWGuardMoreInvWords
namespace Go.Proofs.Yteaomckihokakaa.PFnCutsFillOfAll
open Go.RowKit Go.Proofs.YteaomckihokakaaW.PrintWords Go.Proofs.YteaomckihokakaaW.PrintLast Go.Proofs.YteaomckihokakaaW.PrintMore
attribute [local go_sem] C7 C8 Dp Dq Cx Cy C9 Da -- for this text's walks alone
set_option linter.unusedVariables false
set_option linter.unusedSimpArgs false
theorem yT {α:Type} {i:Decidable (true=true)} {x y r:α} (h:(@ite _ (true=true) i x y)=r):x=r:=by rw [if_pos rfl] at h;exact h
theorem yF {α:Type} {i:Decidable (false=true)} {x y r:α} (h:(@ite _ (false=true) i x y)=r):y=r:=by rw [if_neg Bool.false_ne_true] at h;exact h
section
variable {P:Program} {ops:Array Oper} {Q:Exit→Act→World→Prop} {md:Region.Mode} {S:World→Prop} {ds:List Nat} {T:Bool×List (List Nat×List Nat)}
theorem nG {N:Option Tmp} {v:Value} {fuel:Nat} {l:Array Bool} {a a':Act} {w:World} (h:Bj P md ops Q S ds fuel l a' w)
    (ha:a.put N v=a':=by simp only [List.getElem_toArray,List.getElem_cons_succ,List.getElem_cons_zero,Act.put,List.setIfInBounds_toArray,List.set_cons_zero,List.set_cons_succ,Bg,Bp];rfl):Bj P md ops Q S ds fuel l (a.put N v) w:=In ha h
theorem tH {B:List Nat} (i:Nat) (N:Option Tmp) (l':Array Bool) (hT:Ab (C3 md ops=T)) (hB:Ab (Cu T.2 B=true)) {oi:Oper} {v:Value} {fuel:Nat} {l:Array Bool} {a a':Act} {w:World} (hS:S w)
    (h:Bj P md ops Q S ds fuel l' a' w)
    (hi:ops[i]? = some oi:=by rfl) (hN:oi.dst=N:=by rfl) (hc:takeW T B ds l.toList l'.toList i=true:=by kernel_rfl) (hw:Region.wanted oi (yielded ops a.tmps)=true:=by rfl)
    (hy:∀ w',S w'→(execOp a.eval oi).run P w'=.ok (.value v) w':=by intro w' hs;(try dsimp only at hs);(repeat (have s_:=And.left hs;replace hs:=And.right hs));go_simp;with_reducible rfl)
    (ha:a.put N v=a':=by simp only [Act.put,List.setIfInBounds_toArray,List.set_cons_zero,List.set_cons_succ,Bg,Bp];rfl)
    (hQ:∀ c a w,Q (.panic c) (a.put oi.dst v) w→Q (.panic c) a w:=by exact fun _ _ _ h=>h):Bj P md ops Q S ds (fuel+1) l a w :=
  tG i N l' hT hB hS hy h hi hN hc hw ha hQ
end



def errW:Option Int→Value
 | none=>.nilIface
 | some c=>.iface 0 (.int .i64 c)
theorem Cv:errW none=.nilIface:=rfl
theorem Cw (c:Int):errW (some c)=.iface 0 (.int .i64 c):=rfl

theorem Kr:(Try.prog.info? 3).map (fun i=>(i.zero,i.size,i.bytes))=some (some (.int .i64 0),1,8):=by kernel_rfl
theorem info4:(Try.prog.info? 4).map (fun i=>(i.zero,i.size,i.bytes))=some (some (.bool false),1,1):=by kernel_rfl
theorem info26:(Try.prog.info? 26).map (fun i=>(i.zero,i.size,i.bytes))=some (some (.agg #[(.int .i64 0),(.int .i64 0),(.slice none 0 0)]),3,40):=by kernel_rfl
theorem Mm:(Try.prog.info? 37).map (fun i=>(i.zero,i.size,i.bytes))=some (some (.slice none 0 0),1,24):=by kernel_rfl
theorem Dy:(Try.prog.info? 61).map (fun i=>(i.zero,i.size,i.bytes))=some (some (.agg #[(.int .i64 0),(.int .i64 0),(.int .i64 0)]),3,24):=by kernel_rfl
-- the values' own types
def As (xs:List (List Int)) (i:Int):(List Int):=xs.getD i.toNat ([]:List Int)
theorem I9 {w:World} {A:Option Addr} {n:Nat} {xs:List (List Int)} (h:Kd.C (Kd.slice 3 (Kd.int .i64)) w A n xs) (i:Int) (h0:0≤i) (h1:i<n):∃ ad A0 c0,A=some ad∧w.cell? (ad.add i.toNat)=some (.slice A0 (As xs i).length c0)∧(As xs i).length≤c0∧(Kd.int .i64).C w A0 (As xs i).length (As xs i):=by
 obtain ⟨ad,c,e,_,hK,hc0⟩:=Kd.C_get h ([]:List Int) i h0 h1;have hc:∀ j u,c[j]? = some u→w.cell? (ad.add (i.toNat*1+j))=some u:=hc0;obtain ⟨A0,c0,rfl,l0,g0⟩:=hK;exact ⟨ad,A0,c0,e,by have hq:=hc 0 _ rfl;rwa [Nat.mul_one,Nat.add_zero] at hq,l0,g0⟩

/-! #### struct type 61 -/
structure S61 where
 f0:Int
 f1:Int
 f2:Int
def z61:S61:=⟨(0:Int),(0:Int),(0:Int)⟩
def k61:Kd S61:=Kd.iso (Kd.pair (Kd.int .i64) (Kd.pair (Kd.int .i64) (Kd.int .i64))) (fun x:S61=>(x.f0,x.f1,x.f2))
theorem N6:Kd.Heap k61:=Kd.heap_iso _ (Kd.heap_pair (Kd.heap_int .i64) (Kd.heap_pair (Kd.heap_int .i64) (Kd.heap_int .i64)))
theorem k61_open {w:World} {x:S61} {cs:List Value} (h:k61.K w x cs):cs=[.int .i64 x.f0,.int .i64 x.f1,.int .i64 x.f2]:=by
 obtain ⟨_,_,rfl,rfl,⟨_,_,rfl,rfl,rfl⟩⟩:=h;exact rfl
theorem Dl {w:World} {base:Nat} {ok:Nat→Prop} {x:S61} {cs:List Value} (h:k61.M w base ok x cs):cs=[.int .i64 x.f0,.int .i64 x.f1,.int .i64 x.f2]:=by
 obtain ⟨_,_,rfl,rfl,⟨_,_,rfl,rfl,rfl⟩⟩:=h;exact rfl
theorem k61_mk (w:World) (x:S61):k61.K w x [.int .i64 x.f0,.int .i64 x.f1,.int .i64 x.f2]:=⟨[.int .i64 x.f0],[.int .i64 x.f1,.int .i64 x.f2],rfl,rfl,⟨[.int .i64 x.f1],[.int .i64 x.f2],rfl,rfl,rfl⟩⟩
theorem D2 (w:World) (base:Nat) (ok:Nat→Prop) (x:S61):k61.M w base ok x [.int .i64 x.f0,.int .i64 x.f1,.int .i64 x.f2]:=⟨[.int .i64 x.f0],[.int .i64 x.f1,.int .i64 x.f2],rfl,rfl,⟨[.int .i64 x.f1],[.int .i64 x.f2],rfl,rfl,rfl⟩⟩
theorem k61_mkF (W:World) (ok:Nat→Prop) (x:S61):Kd.FK k61 W ok x [.int .i64 x.f0,.int .i64 x.f1,.int .i64 x.f2]:=fun W2 _=>k61_mk W2 x
def Aa (xs:List S61) (i:Int):S61:=xs.getD i.toNat z61
theorem Bb {w:World} {A:Option Addr} {n:Nat} {xs:List S61} (h:Kd.C k61 w A n xs) (i:Int) (h0:0≤i) (h1:i<n):∃ ad,A=some ad∧w.cell? (ad.add (i.toNat*3))=some (.int .i64 (Aa xs i).f0)∧w.cell? ⟨(ad.add (i.toNat*3)).block,(ad.add (i.toNat*3)).off+1,none⟩=some (.int .i64 (Aa xs i).f1)∧w.cell? ⟨(ad.add (i.toNat*3)).block,(ad.add (i.toNat*3)).off+2,none⟩=some (.int .i64 (Aa xs i).f2):=by
 obtain ⟨ad,c,e,_,hK,hc0⟩:=Kd.C_get h z61 i h0 h1;have hc:∀ j u,c[j]? = some u→w.cell? (ad.add (i.toNat*3+j))=some u:=hc0;obtain rfl:=k61_open hK;exact ⟨ad,e,hc 0 _ rfl,by rw [← Ix _ _ 1 (by omega)];exact hc 1 _ rfl,by rw [← Ix _ _ 2 (by omega)];exact hc 2 _ rfl⟩

def rd_L3 (xs:List (List S61)) (i:Int):(List S61):=xs.getD i.toNat ([]:List S61)
theorem at_L3 {w:World} {A:Option Addr} {n:Nat} {xs:List (List S61)} (h:Kd.C (Kd.slice 61 k61) w A n xs) (i:Int) (h0:0≤i) (h1:i<n):∃ ad A0 c0,A=some ad∧w.cell? (ad.add i.toNat)=some (.slice A0 (rd_L3 xs i).length c0)∧(rd_L3 xs i).length≤c0∧k61.C w A0 (rd_L3 xs i).length (rd_L3 xs i):=by
 obtain ⟨ad,c,e,_,hK,hc0⟩:=Kd.C_get h ([]:List S61) i h0 h1;have hc:∀ j u,c[j]? = some u→w.cell? (ad.add (i.toNat*1+j))=some u:=hc0;obtain ⟨A0,c0,rfl,l0,g0⟩:=hK;exact ⟨ad,A0,c0,e,by have hq:=hc 0 _ rfl;rwa [Nat.mul_one,Nat.add_zero] at hq,l0,g0⟩

/-! #### struct type 26 -/
structure S26 where
 f0:Int
 f1:Int
 f2:(List S61)
def z26:S26:=⟨(0:Int),(0:Int),([]:List S61)⟩
def k26:Kd S26:=Kd.iso (Kd.pair (Kd.int .i64) (Kd.pair (Kd.int .i64) (Kd.slice 61 k61))) (fun x:S26=>(x.f0,x.f1,x.f2))
theorem k26_heap:Kd.Heap k26:=Kd.heap_iso _ (Kd.heap_pair (Kd.heap_int .i64) (Kd.heap_pair (Kd.heap_int .i64) (Kd.heap_slice 61 N6)))
theorem Mc {w:World} {x:S26} {cs:List Value} (h:k26.K w x cs):∃ A2 c2,cs=[.int .i64 x.f0,.int .i64 x.f1,.slice A2 x.f2.length c2]∧x.f2.length≤c2∧k61.C w A2 x.f2.length x.f2:=by
 obtain ⟨_,_,rfl,rfl,⟨_,_,rfl,rfl,⟨A2,c2,rfl,l2,g2⟩⟩⟩:=h;exact ⟨A2,c2,rfl,l2,g2⟩
theorem k26_openM {w:World} {base:Nat} {ok:Nat→Prop} {x:S26} {cs:List Value} (h:k26.M w base ok x cs):∃ v2,cs=[.int .i64 x.f0,.int .i64 x.f1,v2]∧k61.R 61 w base ok v2 x.f2:=by
 obtain ⟨_,_,rfl,rfl,⟨_,_,rfl,rfl,⟨v2,rfl,g2⟩⟩⟩:=h;exact ⟨v2,rfl,g2⟩
theorem k26_mk (w:World) (x:S26) {A2:Option Addr} {c2:Nat} (l2:x.f2.length≤c2) (g2:k61.C w A2 x.f2.length x.f2):k26.K w x [.int .i64 x.f0,.int .i64 x.f1,.slice A2 x.f2.length c2]:=⟨[.int .i64 x.f0],[.int .i64 x.f1,.slice A2 x.f2.length c2],rfl,rfl,⟨[.int .i64 x.f1],[.slice A2 x.f2.length c2],rfl,rfl,⟨A2,c2,rfl,l2,g2⟩⟩⟩
theorem k26_mkM (w:World) (base:Nat) (ok:Nat→Prop) (x:S26) {v2:Value} (g2:k61.R 61 w base ok v2 x.f2):k26.M w base ok x [.int .i64 x.f0,.int .i64 x.f1,v2]:=⟨[.int .i64 x.f0],[.int .i64 x.f1,v2],rfl,rfl,⟨[.int .i64 x.f1],[v2],rfl,rfl,⟨v2,rfl,g2⟩⟩⟩
theorem k26_openF {W:World} {ok:Nat→Prop} {x:S26} {cs:List Value} (h:Kd.FK k26 W ok x cs):∃ A2 c2,cs=[.int .i64 x.f0,.int .i64 x.f1,.slice A2 x.f2.length c2]∧x.f2.length≤c2∧Kd.F k61 W ok A2 x.f2.length x.f2:=by
 obtain ⟨A2,c2,rfl,l2,_⟩:=Mc (Kd.FK_now h);exact ⟨A2,c2,rfl,l2,(fun W' hW=>by obtain ⟨A2_,c2_,he,l2_,g2_⟩:=Mc (h W' hW);injection (Option.some.inj (show some (Value.slice A2 x.f2.length c2)=some (Value.slice A2_ x.f2.length c2_) from congrArg (fun l=>l[2]?) he)) with ha_ _ _;rw [ha_];exact g2_)⟩
theorem k26_mkF (W:World) (ok:Nat→Prop) (x:S26) {A2:Option Addr} {c2:Nat} (l2:x.f2.length≤c2) (g2:Kd.F k61 W ok A2 x.f2.length x.f2):Kd.FK k26 W ok x [.int .i64 x.f0,.int .i64 x.f1,.slice A2 x.f2.length c2]:=fun W2 hW=>k26_mk W2 x l2 (g2 W2 hW)
def Bh (xs:List S26) (i:Int):S26:=xs.getD i.toNat z26
theorem at_T26 {w:World} {A:Option Addr} {n:Nat} {xs:List S26} (h:Kd.C k26 w A n xs) (i:Int) (h0:0≤i) (h1:i<n):∃ ad A2 c2,A=some ad∧w.cell? (ad.add (i.toNat*3))=some (.int .i64 (Bh xs i).f0)∧w.cell? ⟨(ad.add (i.toNat*3)).block,(ad.add (i.toNat*3)).off+1,none⟩=some (.int .i64 (Bh xs i).f1)∧w.cell? ⟨(ad.add (i.toNat*3)).block,(ad.add (i.toNat*3)).off+2,none⟩=some (.slice A2 (Bh xs i).f2.length c2)∧(Bh xs i).f2.length≤c2∧k61.C w A2 (Bh xs i).f2.length (Bh xs i).f2:=by
 obtain ⟨ad,c,e,_,hK,hc0⟩:=Kd.C_get h z26 i h0 h1;have hc:∀ j u,c[j]? = some u→w.cell? (ad.add (i.toNat*3+j))=some u:=hc0;obtain ⟨A2,c2,rfl,l2,g2⟩:=Mc hK;exact ⟨ad,A2,c2,e,hc 0 _ rfl,by rw [← Ix _ _ 1 (by omega)];exact hc 1 _ rfl,by rw [← Ix _ _ 2 (by omega)];exact hc 2 _ rfl,l2,g2⟩

end Go.Proofs.Yteaomckihokakaa.PFnCutsFillOfAll
