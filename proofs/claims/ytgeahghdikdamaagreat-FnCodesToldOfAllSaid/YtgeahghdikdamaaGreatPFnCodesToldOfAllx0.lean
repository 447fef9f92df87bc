-- made for this claim by a program of this session
import Derived.Test.YtgeahghdikdamaaGreatProg
import Derived.Below
import Derived.Deep.Draws
import Derived.Deep.AppendLies
import Derived.Maps.AppendAt
import Derived.OwnWalk
import Derived.Laws.BytesArg
import Derived.Laws.MakeOwn
import Derived.Laws.OwnMore
import Derived.Deep.OwnRows
import Derived.Tactics
import Derived.Lib.ConvBytes
import Derived.Laws.Slices
import Derived.WalkKit
import Derived.KernelRfl
import Derived.RowKit3
import Derived.Deep.LoopGhost
import Derived.Deep.QuietTactic
import Derived.BigQuiet
import Derived.WideLaws
import Derived.Deep.DeepCutAuto
import Derived.Deep.CutBlock
import Derived.Deep.RegionHeld3
import Derived.Laws.Rows
import Derived.Lib.AppendStr
import Derived.ArgAppend
import Derived.Laws.IdiomCopy
import Derived.OrdersHeld
import Derived.Laws.BitsLemmas
import Derived.RowKit
import Derived.Lib.Hide
import Derived.Lib.SliceRun
import Derived.Shelf.Abstract
import Derived.Shelf.Spec.SlicesGrow
import Derived.Shelf.SlicesE.Compact
import Derived.Shelf.SlSortCmp.NoneTotal
import Derived.Shelf.SlSortCmp.WholeK
import Derived.Test.YtgeahghdikdamaaGreatWGuardMoreInvWords
namespace Go.Proofs.YtgeahghdikdamaaGreat.PFnCodesToldOfAll
open Go.RowKit Go.Proofs.YtgeahghdikdamaaGreatW.PrintWords Go.Proofs.YtgeahghdikdamaaGreatW.PrintLast Go.Proofs.YtgeahghdikdamaaGreatW.PrintMore
attribute [local go_sem] Dn Do D2 D3 Da Db Dp Dq -- for this text's walks alone
set_option linter.unusedVariables false
set_option linter.unusedSimpArgs false
theorem yT {α:Type} {i:Decidable (true=true)} {x y r:α} (h:(@ite _ (true=true) i x y)=r):x=r:=by rw [if_pos rfl] at h;exact h
theorem yF {α:Type} {i:Decidable (false=true)} {x y r:α} (h:(@ite _ (false=true) i x y)=r):y=r:=by rw [if_neg Bool.false_ne_true] at h;exact h
section
variable {P:Program} {ops:Array Oper} {Q:Exit→Act→World→Prop} {md:Region.Mode} {S:World→Prop} {ds:List Nat} {T:Bool×List (List Nat×List Nat)}
theorem nG {N : Option Tmp} {v : Value} {fuel : Nat} {l : Array Bool} {a a' : Act} {w : World} (h : Bt P md ops Q S ds fuel l a' w)
    (ha:a.put N v=a':=by simp only [List.getElem_toArray,List.getElem_cons_succ,List.getElem_cons_zero,Act.put,List.setIfInBounds_toArray,List.set_cons_zero,List.set_cons_succ,Cy,Eg];rfl):Bt P md ops Q S ds fuel l (a.put N v) w:=Ig ha h
theorem tH {B : List Nat} (i : Nat) (N : Option Tmp) (l' : Array Bool) (hT : Ab (Dv md ops = T)) (hB : Ab (Dk T.2 B = true)) {oi : Oper} {v : Value} {fuel : Nat} {l : Array Bool} {a a' : Act} {w : World} (hS : S w)
    (h:Bt P md ops Q S ds fuel l' a' w)
    (hi:ops[i]? = some oi:=by rfl) (hN:oi.dst=N:=by rfl) (hc:takeW T B ds l.toList l'.toList i=true:=by kernel_rfl) (hw:Region.wanted oi (yielded ops a.tmps)=true:=by rfl)
    (hy:∀ w',S w'→(execOp a.eval oi).run P w'=.ok (.value v) w':=by intro w' hs;(try dsimp only at hs);(repeat (have s_:=And.left hs;replace hs:=And.right hs));go_simp;with_reducible rfl)
    (ha:a.put N v=a':=by simp only [Act.put,List.setIfInBounds_toArray,List.set_cons_zero,List.set_cons_succ,Cy,Eg];rfl)
    (hQ:∀ c a w,Q (.panic c) (a.put oi.dst v) w→Q (.panic c) a w:=by exact fun _ _ _ h=>h):Bt P md ops Q S ds (fuel+1) l a w :=
  tG i N l' hT hB hS hy h hi hN hc hw ha hQ
end



def errW:Option Int→Value
 | none=>.nilIface
 | some c=>.iface 0 (.int .i64 c)
theorem Io:errW none=.nilIface:=rfl
theorem Ip (c:Int):errW (some c)=.iface 0 (.int .i64 c):=rfl

theorem Jf:(Tryz.prog.info? 3).map (fun i=>(i.zero,i.size,i.bytes))=some (some (.int .i64 0),1,8):=by kernel_rfl
theorem info24:(Tryz.prog.info? 24).map (fun i=>(i.zero,i.size,i.bytes))=some (some (.agg #[(.int .i64 0),(.int .i64 0),(.slice none 0 0)]),3,40):=by kernel_rfl
theorem Kn:(Tryz.prog.info? 26).map (fun i=>(i.zero,i.size,i.bytes))=some (some (.slice none 0 0),1,24):=by kernel_rfl
theorem D7:(Tryz.prog.info? 50).map (fun i=>(i.zero,i.size,i.bytes))=some (some (.agg #[(.int .i64 0),(.int .i64 0),(.int .i64 0)]),3,24):=by kernel_rfl
-- the values' own types
/-! #### struct type 50 -/
structure S50 where
 f0:Int
 f1:Int
 f2:Int
def z50:S50:=⟨(0:Int),(0:Int),(0:Int)⟩
def k50:Kd S50:=Kd.iso (Kd.pair (Kd.int .i64) (Kd.pair (Kd.int .i64) (Kd.int .i64))) (fun x:S50=>(x.f0,x.f1,x.f2))
theorem Rf:Kd.Heap k50:=Kd.heap_iso _ (Kd.heap_pair (Kd.heap_int .i64) (Kd.heap_pair (Kd.heap_int .i64) (Kd.heap_int .i64)))
theorem k50_open {w:World} {x:S50} {cs:List Value} (h:k50.K w x cs):cs=[.int .i64 x.f0,.int .i64 x.f1,.int .i64 x.f2]:=by
 obtain ⟨_,_,rfl,rfl,⟨_,_,rfl,rfl,rfl⟩⟩:=h;exact rfl
theorem D5 {w:World} {base:Nat} {ok:Nat→Prop} {x:S50} {cs:List Value} (h:k50.M w base ok x cs):cs=[.int .i64 x.f0,.int .i64 x.f1,.int .i64 x.f2]:=by
 obtain ⟨_,_,rfl,rfl,⟨_,_,rfl,rfl,rfl⟩⟩:=h;exact rfl
theorem k50_mk (w:World) (x:S50):k50.K w x [.int .i64 x.f0,.int .i64 x.f1,.int .i64 x.f2]:=⟨[.int .i64 x.f0],[.int .i64 x.f1,.int .i64 x.f2],rfl,rfl,⟨[.int .i64 x.f1],[.int .i64 x.f2],rfl,rfl,rfl⟩⟩
theorem Ei (w:World) (base:Nat) (ok:Nat→Prop) (x:S50):k50.M w base ok x [.int .i64 x.f0,.int .i64 x.f1,.int .i64 x.f2]:=⟨[.int .i64 x.f0],[.int .i64 x.f1,.int .i64 x.f2],rfl,rfl,⟨[.int .i64 x.f1],[.int .i64 x.f2],rfl,rfl,rfl⟩⟩
theorem k50_mkF (W:World) (ok:Nat→Prop) (x:S50):Kd.FK k50 W ok x [.int .i64 x.f0,.int .i64 x.f1,.int .i64 x.f2]:=fun W2 _=>k50_mk W2 x
def Aa (xs:List S50) (i:Int):S50:=xs.getD i.toNat z50
theorem Bp {w:World} {A:Option Addr} {n:Nat} {xs:List S50} (h:Kd.C k50 w A n xs) (i:Int) (h0:0≤i) (h1:i<n):∃ ad,A=some ad∧w.cell? (ad.add (i.toNat*3))=some (.int .i64 (Aa xs i).f0)∧w.cell? ⟨(ad.add (i.toNat*3)).block,(ad.add (i.toNat*3)).off+1,none⟩=some (.int .i64 (Aa xs i).f1)∧w.cell? ⟨(ad.add (i.toNat*3)).block,(ad.add (i.toNat*3)).off+2,none⟩=some (.int .i64 (Aa xs i).f2):=by
 obtain ⟨ad,c,e,_,hK,a0⟩:=Kd.C_get h z50 i h0 h1;have hc:∀ j u,c[j]? = some u→w.cell? (ad.add (i.toNat*3+j))=some u:=a0;obtain rfl:=k50_open hK;exact ⟨ad,e,hc 0 _ rfl,by rw [← K1 _ _ 1 (by omega)];exact hc 1 _ rfl,by rw [← K1 _ _ 2 (by omega)];exact hc 2 _ rfl⟩

def rd_L2 (xs:List (List S50)) (i:Int):(List S50):=xs.getD i.toNat ([]:List S50)
theorem at_L2 {w:World} {A:Option Addr} {n:Nat} {xs:List (List S50)} (h:Kd.C (Kd.slice 50 k50) w A n xs) (i:Int) (h0:0≤i) (h1:i<n):∃ ad A0 c0,A=some ad∧w.cell? (ad.add i.toNat)=some (.slice A0 (rd_L2 xs i).length c0)∧(rd_L2 xs i).length≤c0∧k50.C w A0 (rd_L2 xs i).length (rd_L2 xs i):=by
 obtain ⟨ad,c,e,_,hK,a0⟩:=Kd.C_get h ([]:List S50) i h0 h1;have hc:∀ j u,c[j]? = some u→w.cell? (ad.add (i.toNat*1+j))=some u:=a0;obtain ⟨A0,c0,rfl,l0,g0⟩:=hK;exact ⟨ad,A0,c0,e,by have hq:=hc 0 _ rfl;rwa [Nat.mul_one,Nat.add_zero] at hq,l0,g0⟩

def Az (xs:List (List Int)) (i:Int):(List Int):=xs.getD i.toNat ([]:List Int)
theorem D6 {w:World} {A:Option Addr} {n:Nat} {xs:List (List Int)} (h:Kd.C (Kd.slice 3 (Kd.int .i64)) w A n xs) (i:Int) (h0:0≤i) (h1:i<n):∃ ad A0 c0,A=some ad∧w.cell? (ad.add i.toNat)=some (.slice A0 (Az xs i).length c0)∧(Az xs i).length≤c0∧(Kd.int .i64).C w A0 (Az xs i).length (Az xs i):=by
 obtain ⟨ad,c,e,_,hK,a0⟩:=Kd.C_get h ([]:List Int) i h0 h1;have hc:∀ j u,c[j]? = some u→w.cell? (ad.add (i.toNat*1+j))=some u:=a0;obtain ⟨A0,c0,rfl,l0,g0⟩:=hK;exact ⟨ad,A0,c0,e,by have hq:=hc 0 _ rfl;rwa [Nat.mul_one,Nat.add_zero] at hq,l0,g0⟩

/-! #### struct type 24 -/
structure S24 where
 f0:Int
 f1:Int
 f2:(List S50)
def z24:S24:=⟨(0:Int),(0:Int),([]:List S50)⟩
def k24:Kd S24:=Kd.iso (Kd.pair (Kd.int .i64) (Kd.pair (Kd.int .i64) (Kd.slice 50 k50))) (fun x:S24=>(x.f0,x.f1,x.f2))
theorem k24_heap:Kd.Heap k24:=Kd.heap_iso _ (Kd.heap_pair (Kd.heap_int .i64) (Kd.heap_pair (Kd.heap_int .i64) (Kd.heap_slice 50 Rf)))
theorem Nq {w:World} {x:S24} {cs:List Value} (h:k24.K w x cs):∃ A2 c2,cs=[.int .i64 x.f0,.int .i64 x.f1,.slice A2 x.f2.length c2]∧x.f2.length≤c2∧k50.C w A2 x.f2.length x.f2:=by
 obtain ⟨_,_,rfl,rfl,⟨_,_,rfl,rfl,⟨A2,c2,rfl,l2,g2⟩⟩⟩:=h;exact ⟨A2,c2,rfl,l2,g2⟩
theorem k24_openM {w:World} {base:Nat} {ok:Nat→Prop} {x:S24} {cs:List Value} (h:k24.M w base ok x cs):∃ v2,cs=[.int .i64 x.f0,.int .i64 x.f1,v2]∧k50.R 50 w base ok v2 x.f2:=by
 obtain ⟨_,_,rfl,rfl,⟨_,_,rfl,rfl,⟨v2,rfl,g2⟩⟩⟩:=h;exact ⟨v2,rfl,g2⟩
theorem k24_mk (w:World) (x:S24) {A2:Option Addr} {c2:Nat} (l2:x.f2.length≤c2) (g2:k50.C w A2 x.f2.length x.f2):k24.K w x [.int .i64 x.f0,.int .i64 x.f1,.slice A2 x.f2.length c2]:=⟨[.int .i64 x.f0],[.int .i64 x.f1,.slice A2 x.f2.length c2],rfl,rfl,⟨[.int .i64 x.f1],[.slice A2 x.f2.length c2],rfl,rfl,⟨A2,c2,rfl,l2,g2⟩⟩⟩
theorem k24_mkM (w:World) (base:Nat) (ok:Nat→Prop) (x:S24) {v2:Value} (g2:k50.R 50 w base ok v2 x.f2):k24.M w base ok x [.int .i64 x.f0,.int .i64 x.f1,v2]:=⟨[.int .i64 x.f0],[.int .i64 x.f1,v2],rfl,rfl,⟨[.int .i64 x.f1],[v2],rfl,rfl,⟨v2,rfl,g2⟩⟩⟩
theorem k24_openF {W:World} {ok:Nat→Prop} {x:S24} {cs:List Value} (h:Kd.FK k24 W ok x cs):∃ A2 c2,cs=[.int .i64 x.f0,.int .i64 x.f1,.slice A2 x.f2.length c2]∧x.f2.length≤c2∧Kd.F k50 W ok A2 x.f2.length x.f2:=by
 obtain ⟨A2,c2,rfl,l2,_⟩:=Nq (Kd.FK_now h);exact ⟨A2,c2,rfl,l2,(fun W' hW=>by obtain ⟨a0,a1,he,a3,a2⟩:=Nq (h W' hW);injection (Option.some.inj (show some (Value.slice A2 x.f2.length c2)=some (Value.slice a0 x.f2.length a1) from congrArg (fun l=>l[2]?) he)) with ha_ _ _;rw [ha_];exact a2)⟩
theorem k24_mkF (W:World) (ok:Nat→Prop) (x:S24) {A2:Option Addr} {c2:Nat} (l2:x.f2.length≤c2) (g2:Kd.F k50 W ok A2 x.f2.length x.f2):Kd.FK k24 W ok x [.int .i64 x.f0,.int .i64 x.f1,.slice A2 x.f2.length c2]:=fun W2 hW=>k24_mk W2 x l2 (g2 W2 hW)
def K6 (xs:List S24) (i:Int):S24:=xs.getD i.toNat z24
theorem at_T24 {w:World} {A:Option Addr} {n:Nat} {xs:List S24} (h:Kd.C k24 w A n xs) (i:Int) (h0:0≤i) (h1:i<n):∃ ad A2 c2,A=some ad∧w.cell? (ad.add (i.toNat*3))=some (.int .i64 (K6 xs i).f0)∧w.cell? ⟨(ad.add (i.toNat*3)).block,(ad.add (i.toNat*3)).off+1,none⟩=some (.int .i64 (K6 xs i).f1)∧w.cell? ⟨(ad.add (i.toNat*3)).block,(ad.add (i.toNat*3)).off+2,none⟩=some (.slice A2 (K6 xs i).f2.length c2)∧(K6 xs i).f2.length≤c2∧k50.C w A2 (K6 xs i).f2.length (K6 xs i).f2:=by
 obtain ⟨ad,c,e,_,hK,a0⟩:=Kd.C_get h z24 i h0 h1;have hc:∀ j u,c[j]? = some u→w.cell? (ad.add (i.toNat*3+j))=some u:=a0;obtain ⟨A2,c2,rfl,l2,g2⟩:=Nq hK;exact ⟨ad,A2,c2,e,hc 0 _ rfl,by rw [← K1 _ _ 1 (by omega)];exact hc 1 _ rfl,by rw [← K1 _ _ 2 (by omega)];exact hc 2 _ rfl,l2,g2⟩

def rd_L6 (xs:List (List (List Int))) (i:Int):(List (List Int)):=xs.getD i.toNat ([]:List (List Int))
theorem at_L6 {w:World} {A:Option Addr} {n:Nat} {xs:List (List (List Int))} (h:Kd.C (Kd.slice 26 (Kd.slice 3 (Kd.int .i64))) w A n xs) (i:Int) (h0:0≤i) (h1:i<n):∃ ad A0 c0,A=some ad∧w.cell? (ad.add i.toNat)=some (.slice A0 (rd_L6 xs i).length c0)∧(rd_L6 xs i).length≤c0∧(Kd.slice 3 (Kd.int .i64)).C w A0 (rd_L6 xs i).length (rd_L6 xs i):=by
 obtain ⟨ad,c,e,_,hK,a0⟩:=Kd.C_get h ([]:List (List Int)) i h0 h1;have hc:∀ j u,c[j]? = some u→w.cell? (ad.add (i.toNat*1+j))=some u:=a0;obtain ⟨A0,c0,rfl,l0,g0⟩:=hK;exact ⟨ad,A0,c0,e,by have hq:=hc 0 _ rfl;rwa [Nat.mul_one,Nat.add_zero] at hq,l0,g0⟩

end Go.Proofs.YtgeahghdikdamaaGreat.PFnCodesToldOfAll
