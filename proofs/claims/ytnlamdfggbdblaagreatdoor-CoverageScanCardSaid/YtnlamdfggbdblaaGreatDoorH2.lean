/-
  Contracts by hand: the conditions stand in each.
-/
import Derived.Test.YtnlamdfggbdblaaGreatDoorPA
import Derived.Test.YtnlamdfggbdblaaGreatDoorG
import Derived.Test.YtnlamdfggbdblaaGreatDoorC3
import Derived.Test.YtnlamdfggbdblaaGreatDoorC0
import Derived.Test.YtnlamdfggbdblaaGreatDoorC1
import Derived.Test.YtnlamdfggbdblaaGreatDoorC2
open Int renaming reduceLE->naa,reduceToNat->jaa
open List renaming map_cons->Gaa,map_nil->Fab
open Nat renaming reduceAdd->Vaa,reduceLT->qac
open Option.some renaming inj->Faa
set_option linter.all false
set_option maxHeartbeats 1000000
set_option maxRecDepth 10000
namespace Go.Proofs.Dev
open Go Go.Tm
theorem DG{t0 r}(h:Br t0=some r):EB Tryz.prog 16 [] [] 2 (t0.map Ga) (Jb r):=by
 obtain rfl:=Faa h;refine EB.at 23 L4.ok L4.nm oz oz (Fr.l _) rfl ?_;simp only[L4,Kf.of,zs,ze];refine T.sr ?_;simp only[zx];refine T.sr ?_;simp only[zx];apply Rk;apply Jv K8 21 rfl
 .simp only[K8,Kf.of,zs,ze];refine T.sr ?_;simp only[zx];refine T.sr ?_;simp only[zx];refine T.sr ?_;simp only[zx];refine T.sr ?_;simp only[zx];refine T.sr ?_;simp only[zx];refine T.ret (PI ?_);simp only[zx,zr,Hw];exact .refl _
 .simp only[zx];refine T.sr ?_;simp only[zx,naa,jaa,qac,Vaa,if_true];refine T.sr ?_;simp only[zx,naa,jaa,qac,Vaa,if_true];refine T.sr ?_;simp only[zx,naa,jaa,qac,Vaa,if_true];refine T.ret (vn ?_);simp only[zx,zr,Yl,xj,Lx,ze,Gaa,Fab];exact fq (by simp only[zg])
theorem rD{r}(h:Rs []=some r):Den Tryz.prog 16 [.v (.slice none 0 0)] (Jb r):=by
 obtain rfl:=Faa h;refine dk 23 L4 ?_ rfl;simp only[L4,Kf.of,zs,ze];refine T.sr ?_;simp only[zx];refine T.sr ?_;simp only[zx];apply Rk;apply Jv K8 21 rfl
 .simp only[K8,Kf.of,zs,ze];refine T.sr ?_;simp only[zx];refine T.sr ?_;simp only[zx];refine T.sr ?_;simp only[zx];refine T.sr ?_;simp only[zx];refine T.sr ?_;simp only[zx];refine T.ret (PI ?_);simp only[zx,zr,Hw];exact .refl _
 .simp only[zx];refine T.sr ?_;simp only[zx,naa,jaa,qac,Vaa,if_true];refine T.sr ?_;simp only[zx,naa,jaa,qac,Vaa,if_true];refine T.sr ?_;simp only[zx,naa,jaa,qac,Vaa,if_true];refine T.ret (vn ?_);simp only[zx,zr,Yl,xj,Lx,ze,Gaa,Fab];exact fq (by simp only[zg])
instance {t0 r}:Con (Br t0=some r) (EB Tryz.prog 16 [] [] 2 (t0.map Ga) (Jb r)):=⟨DG⟩
instance {r}:Con (Rs []=some r) (Den Tryz.prog 16 [.v (.slice none 0 0)] (Jb r)):=⟨rD⟩
end Go.Proofs.Dev
