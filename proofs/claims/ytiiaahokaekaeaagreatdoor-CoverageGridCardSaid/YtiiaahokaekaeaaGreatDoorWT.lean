/-
  The table of functions that the fixed example runs: no condition.
-/
import Derived.Test.YtiiaahokaekaeaaGreatDoorC3
import Derived.Test.YtiiaahokaekaeaaGreatDoorEC
import Derived.Test.YtiiaahokaekaeaaGreatDoorK
import Derived.Test.YtiiaahokaekaeaaGreatDoorC0
import Derived.Test.YtiiaahokaekaeaaGreatDoorC1
import Derived.Test.YtiiaahokaekaeaaGreatDoorC2
set_option linter.all false
set_option maxRecDepth 100000
set_option maxHeartbeats 4000000
namespace Go.Proofs.Dev
open Go Go.Tm
def tab:List (Nat×Fun):=[(8,k8.F),(9,k9.F),(11,k11.F),(13,k13.F),(15,k15.F),(20,k20.F),(24,k24.F),(25,k25.F),(26,k26.F),(27,k27.F),(28,k28.F),(29,k29.F),(30,k30.F),(31,k31.F),(32,k32.F),(41,k41.F),(42,k42.F),(43,k43.F),(44,k44.F),(45,k45.F),(46,k46.F),(47,k47.F),(48,k48.F),(49,k49.F),(54,k54.F),(57,k57.F),(64,k64.F),(65,k65.F),(66,k66.F),(67,k67.F),(68,k68.F),(69,k69.F),(70,k70.F),(71,k71.F),(72,k72.F),(73,k73.F),(74,k74.F),(75,k75.F),(76,k76.F),(77,k77.F),(78,k78.F),(79,k79.F),(80,k80.F),(81,k81.F),(92,k92.F),(93,k93.F),(94,k94.F),(95,k95.F),(96,k96.F),(97,k97.F),(98,k98.F),(99,k99.F),(100,k100.F),(109,k109.F),(110,k110.F),(111,k111.F),(112,k112.F),(113,k113.F),(114,k114.F),(115,k115.F),(116,k116.F),(117,k117.F),(118,k118.F),(119,k119.F),(120,k120.F),(121,k121.F),(122,k122.F),(123,k123.F),(124,k124.F),(125,k125.F),(126,k126.F),(138,k138.F),(139,k139.F),(140,k140.F),(148,k148.F),(149,k149.F),(150,k150.F),(151,k151.F),(152,k152.F),(153,k153.F),(154,k154.F),(155,k155.F),(156,k156.F),(157,k157.F),(158,k158.F),(159,k159.F),(160,k160.F),(161,k161.F),(162,k162.F),(163,k163.F),(164,k164.F),(165,k165.F),(166,k166.F),(167,k167.F),(168,k168.F),(169,k169.F),(170,k170.F),(171,k171.F),(172,k172.F),(173,k173.F),(174,k174.F),(175,k175.F),(176,k176.F),(177,k177.F),(178,k178.F),(179,k179.F),(180,k180.F),(181,k181.F),(182,k182.F),(199,k199.F),(200,k200.F),(201,k201.F),(207,k207.F),(208,k208.F),(209,k209.F),(210,k210.F),(211,k211.F),(212,k212.F),(213,k213.F),(214,k214.F),(215,k215.F),(216,k216.F),(217,k217.F),(218,k218.F),(219,k219.F),(220,k220.F),(221,k221.F),(222,k222.F),(223,k223.F),(224,k224.F),(225,k225.F),(226,k226.F),(227,k227.F),(228,k228.F),(229,k229.F),(239,k239.F),(240,k240.F),(241,k241.F),(242,k242.F),(243,k243.F),(244,k244.F),(245,k245.F),(253,k253.F),(254,k254.F),(255,k255.F),(256,k256.F),(257,k257.F),(258,k258.F),(259,k259.F),(261,k261.F),(262,k262.F),(263,k263.F),(264,k264.F),(265,k265.F),(266,k266.F),(267,k267.F),(268,k268.F),(269,k269.F),(270,k270.F),(287,k287.F),(288,k288.F),(289,k289.F),(290,k290.F),(291,k291.F),(292,k292.F),(293,k293.F),(294,k294.F),(295,k295.F),(296,k296.F),(314,k314.F),(315,k315.F),(316,k316.F),(317,k317.F),(318,k318.F),(319,k319.F),(320,k320.F),(321,k321.F),(322,k322.F),(323,k323.F),(324,k324.F),(325,k325.F),(326,k326.F),(340,k340.F),(341,k341.F),(342,k342.F),(343,k343.F),(344,k344.F),(345,k345.F),(346,k346.F),(347,k347.F),(348,k348.F),(349,k349.F),(350,k350.F),(351,k351.F)]
theorem tab_ok:TabOk Tryz.prog tab:=by
 unfold TabOk tab;simp only [List.forall_mem_cons];exact⟨k8.o,⟨k9.o,⟨k11.o,⟨k13.o,⟨k15.o,⟨k20.o,⟨k24.o,⟨k25.o,⟨k26.o,⟨k27.o,⟨k28.o,⟨k29.o,⟨k30.o,⟨k31.o,⟨k32.o,⟨k41.o,⟨k42.o,⟨k43.o,⟨k44.o,⟨k45.o,⟨k46.o,⟨k47.o,⟨k48.o,⟨k49.o,⟨k54.o,⟨k57.o,⟨k64.o,⟨k65.o,⟨k66.o,⟨k67.o,⟨k68.o,⟨k69.o,⟨k70.o,⟨k71.o,⟨k72.o,⟨k73.o,⟨k74.o,⟨k75.o,⟨k76.o,⟨k77.o,⟨k78.o,⟨k79.o,⟨k80.o,⟨k81.o,⟨k92.o,⟨k93.o,⟨k94.o,⟨k95.o,⟨k96.o,⟨k97.o,⟨k98.o,⟨k99.o,⟨k100.o,⟨k109.o,⟨k110.o,⟨k111.o,⟨k112.o,⟨k113.o,⟨k114.o,⟨k115.o,⟨k116.o,⟨k117.o,⟨k118.o,⟨k119.o,⟨k120.o,⟨k121.o,⟨k122.o,⟨k123.o,⟨k124.o,⟨k125.o,⟨k126.o,⟨k138.o,⟨k139.o,⟨k140.o,⟨k148.o,⟨k149.o,⟨k150.o,⟨k151.o,⟨k152.o,⟨k153.o,⟨k154.o,⟨k155.o,⟨k156.o,⟨k157.o,⟨k158.o,⟨k159.o,⟨k160.o,⟨k161.o,⟨k162.o,⟨k163.o,⟨k164.o,⟨k165.o,⟨k166.o,⟨k167.o,⟨k168.o,⟨k169.o,⟨k170.o,⟨k171.o,⟨k172.o,⟨k173.o,⟨k174.o,⟨k175.o,⟨k176.o,⟨k177.o,⟨k178.o,⟨k179.o,⟨k180.o,⟨k181.o,⟨k182.o,⟨k199.o,⟨k200.o,⟨k201.o,⟨k207.o,⟨k208.o,⟨k209.o,⟨k210.o,⟨k211.o,⟨k212.o,⟨k213.o,⟨k214.o,⟨k215.o,⟨k216.o,⟨k217.o,⟨k218.o,⟨k219.o,⟨k220.o,⟨k221.o,⟨k222.o,⟨k223.o,⟨k224.o,⟨k225.o,⟨k226.o,⟨k227.o,⟨k228.o,⟨k229.o,⟨k239.o,⟨k240.o,⟨k241.o,⟨k242.o,⟨k243.o,⟨k244.o,⟨k245.o,⟨k253.o,⟨k254.o,⟨k255.o,⟨k256.o,⟨k257.o,⟨k258.o,⟨k259.o,⟨k261.o,⟨k262.o,⟨k263.o,⟨k264.o,⟨k265.o,⟨k266.o,⟨k267.o,⟨k268.o,⟨k269.o,⟨k270.o,⟨k287.o,⟨k288.o,⟨k289.o,⟨k290.o,⟨k291.o,⟨k292.o,⟨k293.o,⟨k294.o,⟨k295.o,⟨k296.o,⟨k314.o,⟨k315.o,⟨k316.o,⟨k317.o,⟨k318.o,⟨k319.o,⟨k320.o,⟨k321.o,⟨k322.o,⟨k323.o,⟨k324.o,⟨k325.o,⟨k326.o,⟨k340.o,⟨k341.o,⟨k342.o,⟨k343.o,⟨k344.o,⟨k345.o,⟨k346.o,⟨k347.o,⟨k348.o,⟨k349.o,⟨k350.o,⟨k351.o,fun _ h=>absurd h List.not_mem_nil⟩⟩⟩⟩⟩⟩⟩⟩⟩⟩⟩⟩⟩⟩⟩⟩⟩⟩⟩⟩⟩⟩⟩⟩⟩⟩⟩⟩⟩⟩⟩⟩⟩⟩⟩⟩⟩⟩⟩⟩⟩⟩⟩⟩⟩⟩⟩⟩⟩⟩⟩⟩⟩⟩⟩⟩⟩⟩⟩⟩⟩⟩⟩⟩⟩⟩⟩⟩⟩⟩⟩⟩⟩⟩⟩⟩⟩⟩⟩⟩⟩⟩⟩⟩⟩⟩⟩⟩⟩⟩⟩⟩⟩⟩⟩⟩⟩⟩⟩⟩⟩⟩⟩⟩⟩⟩⟩⟩⟩⟩⟩⟩⟩⟩⟩⟩⟩⟩⟩⟩⟩⟩⟩⟩⟩⟩⟩⟩⟩⟩⟩⟩⟩⟩⟩⟩⟩⟩⟩⟩⟩⟩⟩⟩⟩⟩⟩⟩⟩⟩⟩⟩⟩⟩⟩⟩⟩⟩⟩⟩⟩⟩⟩⟩⟩⟩⟩⟩⟩⟩⟩⟩⟩⟩⟩⟩⟩⟩⟩⟩⟩⟩⟩⟩⟩⟩⟩⟩⟩⟩⟩⟩⟩⟩
def md0 (k:Nat):Nat:=bif Nat.beq k 256 then 3 else bif Nat.beq k 44 then 2 else bif Nat.beq k 24 then 1 else 0
theorem said_con {ds:List D}{d:D}(h:conD ds=some d) (m:List Ent):CallT Tryz.prog 256 ds m fun d' m'=>d'=d∧m'=m:=by
 unfold conD at h;split at h
 ·rename_i a b;split at h
  ·rename_i c hc;injection h with h;subst h;refine strings_Contains_ok (t0:=a) (t1:=b) (r:=a.data.toList.contains c) ?_ m;have hs:b.size=1:=by
    show b.data.size=1;rw [←Array.length_toList,hc];rfl
   unfold strings_Contains;rw [if_pos hs,hc];rfl
  ·cases h
 ·cases h
theorem said0:SaidOk Tryz.prog md0 fun _ ds=>conD ds:=by
 intro k hk ds d m h;unfold md0 at hk
 cases hb:Nat.beq k 256 with
 |true=>rw [Nat.eq_of_beq_eq_true hb];exact said_con h m
 |false=>
  rw [hb]at hk;cases h1:Nat.beq k 44<;>cases h2:Nat.beq k 24<;>simp [h1,h2]at hk
def g1a:List D:=[.agg [.v (.slice none 0 0),.v (.slice none 0 0),.sl 5 [.agg [.v (.string ⟨#[104,111,117,115,101]⟩),.v (.int .i64 (-1)),.sl 3 [.agg [.v (.string ⟨#[97]⟩),.v (.int .i64 2),.v (.int .i64 0)]],.sl 3 [.agg [.v (.string ⟨#[100]⟩),.v (.int .i64 3),.v (.int .i64 0)]],.sl 9 [.agg [.v (.string ⟨#[98,97,115,101]⟩),.v (.int .i64 0),.v (.int .i64 (-1)),.v (.int .i64 0),.v (.int .i64 0),.v (.int .i64 109573),.sl 2 [.agg [.v (.int .i64 7),.v (.int .i64 0)],.agg [.v (.int .i64 2),.v (.int .i64 18)],.agg [.v (.int .i64 21),.v (.int .i64 0)]],.sl 2 [.agg [.v (.int .i64 3),.v (.int .i64 5)]],.v (.string ⟨#[]⟩)]]]]],.v (.int .i64 0),.v (.int .i64 0),.v (.int .i64 1)]
def g1r:D:=.tup [.sl 1 [.sl 1 [.v (.int .i64 (-1000000000000)),.v (.int .i64 18),.v (.int .i64 19)]],.v (.int .i64 0)]
def g2a:List D:=[.agg [.v (.slice none 0 0),.v (.slice none 0 0),.sl 5 [.agg [.v (.string ⟨#[104,111,117,115,101]⟩),.v (.int .i64 (-1)),.sl 3 [.agg [.v (.string ⟨#[97]⟩),.v (.int .i64 2),.v (.int .i64 0)]],.sl 3 [.agg [.v (.string ⟨#[100]⟩),.v (.int .i64 3),.v (.int .i64 0)]],.sl 9 [.agg [.v (.string ⟨#[98,97,115,101]⟩),.v (.int .i64 0),.v (.int .i64 (-1)),.v (.int .i64 0),.v (.int .i64 0),.v (.int .i64 109573),.v (.slice none 0 0),.sl 2 [.agg [.v (.int .i64 3),.v (.int .i64 5)]],.v (.string ⟨#[]⟩)]]]]],.v (.int .i64 0),.v (.int .i64 0),.v (.int .i64 1)]
def g2r:D:=.tup [.sl 1 [.sl 1 [.v (.int .i64 0)]],.v (.int .i64 0)]
end Go.Proofs.Dev
