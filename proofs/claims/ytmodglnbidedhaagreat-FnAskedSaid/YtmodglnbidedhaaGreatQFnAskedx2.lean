import Derived.Test.YtmodglnbidedhaaGreatQFnAskedx3
import Derived.Test.YtmodglnbidedhaaGreatQFnAskedx4
import Derived.Test.YtmodglnbidedhaaGreatQFnAskedx5
import Derived.Test.YtmodglnbidedhaaGreatQFnAskedx6
import Derived.Test.YtmodglnbidedhaaGreatQFnAskedx7
import Derived.Test.YtmodglnbidedhaaGreatS
/- The machine side of FnAsked: each function does what its plain function tells. -/
namespace Go.Proofs.YtmodglnbidedhaaGreat.QFnAsked
open Go Go.RowKit Go.Proofs Go.Proofs.YtmodglnbidedhaaGreatV Go.Proofs.YtmodglnbidedhaaGreatW.PrintWords
set_option linter.unusedVariables false
set_option maxRecDepth 100000
theorem Wv.ok (k : Nat) : Ok Tryz.prog U 4 (Wv.c k) := fn_ok PL mx Tryz.func4 rfl Wv.d (g := fun k => (Wv.c k).f) Wv.o Wv.i trivial (fun k => trivial) Wv.t (fun k => trivial) k
theorem Y9.ok (k : Nat) : Ok Tryz.prog U 15 (Y9.c k) := fn_ok PL mx Tryz.func15 rfl Y9.d (g := fun k => (Y9.c k).f) Y9.o Y9.i ⟨fun _ => rfl, trivial⟩ (fun k => trivial) Y9.t (fun k => ⟨Y9.s0 k, trivial⟩) k
theorem Xy.ok (k : Nat) : Ok Tryz.prog U 103 (Xy.c k) := fn_ok PL mx Tryz.func103 rfl Xy.d (g := fun k => (Xy.c k).f) Xy.o Xy.i trivial (fun k => trivial) Xy.t (fun k => trivial) k
theorem Zd.ok (k : Nat) : Ok Tryz.prog U 55 (Zd.c k) := fn_ok PL mx Tryz.func55 rfl Zd.d (g := fun k => (Zd.c k).f) Zd.o Zd.i trivial (fun k => ⟨⟨Xy.ok k, trivial⟩, trivial⟩) Zd.t (fun k => trivial) k
theorem Yw.ok (k : Nat) : Ok Tryz.prog U 133 (Yw.c k) := fn_ok PL mx Tryz.func133 rfl Yw.d (g := fun k => (Yw.c k).f) Yw.o Yw.i ⟨fun _ => rfl, trivial⟩ (fun k => ⟨⟨Zd.ok k, trivial⟩, trivial⟩) Yw.t (fun k => ⟨Yw.s0 k, trivial⟩) k
theorem Yz.ok (k : Nat) : Ok Tryz.prog U 111 (Yz.c k) := fn_ok PL mx Tryz.func111 rfl Yz.d (g := fun k => (Yz.c k).f) Yz.o Yz.i trivial (fun k => ⟨⟨Zd.ok k, trivial⟩, trivial⟩) Yz.t (fun k => trivial) k
theorem XS.ok (k : Nat) : Ok Tryz.prog U 135 (XS.c k) := fn_ok PL mx Tryz.func135 rfl XS.d (g := fun k => (XS.c k).f) XS.o XS.i trivial (fun k => ⟨⟨Zd.ok k, trivial⟩, ⟨Yz.ok k, trivial⟩, trivial⟩) XS.t (fun k => trivial) k
theorem Zw.ok (k : Nat) : Ok Tryz.prog U 79 (Zw.c k) := fn_ok PL mx Tryz.func79 rfl Zw.d (g := fun k => (Zw.c k).f) Zw.o Zw.i trivial (fun k => trivial) Zw.t (fun k => trivial) k
theorem XT.ok (k : Nat) : Ok Tryz.prog U 152 (XT.c k) := fn_ok PL mx Tryz.func152 rfl XT.d (g := fun k => (XT.c k).f) XT.o XT.i trivial (fun k => ⟨⟨Zw.ok k, trivial⟩, trivial⟩) XT.t (fun k => trivial) k
theorem YE.ok (k : Nat) : Ok Tryz.prog U 119 (YE.c k) := fn_ok PL mx Tryz.func119 rfl YE.d (g := fun k => (YE.c k).f) YE.o YE.i trivial (fun k => ⟨⟨XT.ok k, trivial⟩, trivial⟩) YE.t (fun k => trivial) k
theorem Zj.ok (k : Nat) : Ok Tryz.prog U 36 (Zj.c k) := fn_ok PL mx Tryz.func36 rfl Zj.d (g := fun k => (Zj.c k).f) Zj.o Zj.i trivial (fun k => ⟨⟨Zw.ok k, trivial⟩, trivial⟩) Zj.t (fun k => trivial) k
theorem Xz.ok (k : Nat) : Ok Tryz.prog U 82 (Xz.c k) := fn_ok PL mx Tryz.func82 rfl Xz.d (g := fun k => (Xz.c k).f) Xz.o Xz.i trivial (fun k => ⟨⟨YE.ok k, trivial⟩, ⟨Zw.ok k, trivial⟩, ⟨Zj.ok k, trivial⟩, trivial⟩) Xz.t (fun k => trivial) k
theorem Yy.ok (k : Nat) : Ok Tryz.prog U 83 (Yy.c k) := fn_ok PL mx Tryz.func83 rfl Yy.d (g := fun k => (Yy.c k).f) Yy.o Yy.i trivial (fun k => trivial) Yy.t (fun k => trivial) k
theorem Z5.ok (k : Nat) : Ok Tryz.prog U 38 (Z5.c k) := fn_ok PL mx Tryz.func38 rfl Z5.d (g := fun k => (Z5.c k).f) Z5.o Z5.i ⟨fun _ => rfl, trivial⟩ (fun k => ⟨⟨Xz.ok k, trivial⟩, ⟨Yy.ok k, trivial⟩, trivial⟩) Z5.t (fun k => ⟨Z5.s0 k, trivial⟩) k
theorem YO.ok (k : Nat) : Ok Tryz.prog U 164 (YO.c k) := fn_ok PL mx Tryz.func164 rfl YO.d (g := fun k => (YO.c k).f) YO.o YO.i trivial (fun k => trivial) YO.t (fun k => trivial) k
theorem Xv.ok (k : Nat) : Ok Tryz.prog U 144 (Xv.c k) := fn_ok PL mx Tryz.func144 rfl Xv.d (g := fun k => (Xv.c k).f) Xv.o Xv.i trivial (fun k => trivial) Xv.t (fun k => trivial) k
theorem Zm.ok (k : Nat) : Ok Tryz.prog U 136 (Zm.c k) := fn_ok PL mx Tryz.func136 rfl Zm.d (g := fun k => (Zm.c k).f) Zm.o Zm.i ⟨fun _ => rfl, trivial⟩ (fun k => ⟨⟨Z5.ok k, trivial⟩, ⟨Xz.ok k, trivial⟩, ⟨YO.ok k, trivial⟩, ⟨Yy.ok k, trivial⟩, ⟨Xv.ok k, trivial⟩, trivial⟩) Zm.t (fun k => ⟨Zm.s0 k, trivial⟩) k
theorem YP.ok (k : Nat) : Ok Tryz.prog U 134 (YP.c k) := fn_ok PL mx Tryz.func134 rfl YP.d (g := fun k => (YP.c k).f) YP.o YP.i ⟨fun _ => rfl, trivial⟩ (fun k => ⟨⟨Zd.ok k, trivial⟩, ⟨XS.ok k, trivial⟩, ⟨Zm.ok k, trivial⟩, trivial⟩) YP.t (fun k => ⟨YP.s0 k, trivial⟩) k
theorem YJ.ok (k : Nat) : Ok Tryz.prog U 62 (YJ.c k) := fn_ok PL mx Tryz.func62 rfl YJ.d (g := fun k => (YJ.c k).f) YJ.o YJ.i trivial (fun k => ⟨⟨Yz.ok k, trivial⟩, ⟨Zd.ok k, trivial⟩, trivial⟩) YJ.t (fun k => trivial) k
theorem Wc.ok (k : Nat) : Ok Tryz.prog U 58 (Wc.c k) := fn_ok PL mx Tryz.func58 rfl Wc.d (g := fun k => (Wc.c k).f) Wc.o Wc.i trivial (fun k => trivial) Wc.t (fun k => trivial) k
theorem Yv.ok (k : Nat) : Ok Tryz.prog U 99 (Yv.c k) := fn_ok PL mx Tryz.func99 rfl Yv.d (g := fun k => (Yv.c k).f) Yv.o Yv.i ⟨fun _ => rfl, trivial⟩ (fun k => ⟨⟨Yw.ok k, trivial⟩, ⟨YP.ok k, trivial⟩, ⟨YJ.ok k, trivial⟩, ⟨Zd.ok k, trivial⟩, ⟨XS.ok k, trivial⟩, ⟨Wc.ok k, trivial⟩, ⟨Zm.ok k, trivial⟩, trivial⟩) Yv.t (fun k => ⟨Yv.s0 k, trivial⟩) k
theorem Ym.ok (k : Nat) : Ok Tryz.prog U 20 (Ym.c k) := fn_ok PL mx Tryz.func20 rfl Ym.d (g := fun k => (Ym.c k).f) Ym.o Ym.i trivial (fun k => ⟨⟨Zd.ok k, trivial⟩, trivial⟩) Ym.t (fun k => trivial) k
theorem Xa.ok (k : Nat) : Ok Tryz.prog U 183 (Xa.c k) := fn_ok PL mx Tryz.func183 rfl Xa.d (g := fun k => (Xa.c k).f) Xa.o Xa.i trivial (fun k => ⟨⟨Ym.ok k, trivial⟩, ⟨Zd.ok k, trivial⟩, trivial⟩) Xa.t (fun k => trivial) k
theorem YN.ok (k : Nat) : Ok Tryz.prog U 17 (YN.c k) := fn_ok PL mx Tryz.func17 rfl YN.d (g := fun k => (YN.c k).f) YN.o YN.i trivial (fun k => ⟨⟨Zd.ok k, trivial⟩, trivial⟩) YN.t (fun k => trivial) k
theorem ZE.ring (k : Nat) : Ok Tryz.prog U 188 (ZE.c k) := ring_ind (Q := fun k => Ok Tryz.prog U 188 (ZE.c k)) (zero_ok (ent_of Tryz.func188 rfl (by kernel_rfl)) (fun _ => rfl)) (fun k ih => ring_ok PL mx Tryz.func188 rfl ZE.d (g := fun k => (ZE.c k).f) ZE.o ZE.i ⟨fun _ => rfl, trivial⟩ ZE.t (fun k => ⟨ZE.s0 k, trivial⟩) k (fun j hj => ⟨⟨(ih j hj), trivial⟩, trivial⟩)) k
theorem ZE.ok (k : Nat) : Ok Tryz.prog U 188 (ZE.c k) := (ZE.ring k)
theorem XL.ok (k : Nat) : Ok Tryz.prog U 184 (XL.c k) := fn_ok PL mx Tryz.func184 rfl XL.d (g := fun k => (XL.c k).f) XL.o XL.i trivial (fun k => ⟨⟨ZE.ok k, trivial⟩, trivial⟩) XL.t (fun k => trivial) k
theorem XC.ok (k : Nat) : Ok Tryz.prog U 185 (XC.c k) := fn_ok PL mx Tryz.func185 rfl XC.d (g := fun k => (XC.c k).f) XC.o XC.i trivial (fun k => ⟨⟨ZE.ok k, trivial⟩, trivial⟩) XC.t (fun k => trivial) k
theorem X6.ok (k : Nat) : Ok Tryz.prog U 186 (X6.c k) := fn_ok PL mx Tryz.func186 rfl X6.d (g := fun k => (X6.c k).f) X6.o X6.i trivial (fun k => ⟨⟨ZE.ok k, trivial⟩, trivial⟩) X6.t (fun k => trivial) k
theorem ZO.ring (k : Nat) : Ok Tryz.prog U 165 (ZO.c k) := ring_ind (Q := fun k => Ok Tryz.prog U 165 (ZO.c k)) (zero_ok (ent_of Tryz.func165 rfl (by kernel_rfl)) (fun _ => rfl)) (fun k ih => ring_ok PL mx Tryz.func165 rfl ZO.d (g := fun k => (ZO.c k).f) ZO.o ZO.i trivial ZO.t (fun k => trivial) k (fun j hj => ⟨⟨Xa.ok j, trivial⟩, ⟨YN.ok j, trivial⟩, ⟨Zd.ok j, trivial⟩, ⟨(ih j hj), trivial⟩, ⟨XL.ok j, trivial⟩, ⟨XC.ok j, trivial⟩, ⟨X6.ok j, trivial⟩, trivial⟩)) k
theorem ZO.ok (k : Nat) : Ok Tryz.prog U 165 (ZO.c k) := (ZO.ring k)
theorem XM.ok (k : Nat) : Ok Tryz.prog U 137 (XM.c k) := fn_ok PL mx Tryz.func137 rfl XM.d (g := fun k => (XM.c k).f) XM.o XM.i trivial (fun k => ⟨⟨Ym.ok k, trivial⟩, ⟨ZO.ok k, trivial⟩, ⟨YN.ok k, trivial⟩, ⟨Yz.ok k, trivial⟩, trivial⟩) XM.t (fun k => trivial) k
theorem Yj.ok (k : Nat) : Ok Tryz.prog U 100 (Yj.c k) := fn_ok PL mx Tryz.func100 rfl Yj.d (g := fun k => (Yj.c k).f) Yj.o Yj.i ⟨fun _ => rfl, trivial⟩ (fun k => ⟨⟨Zd.ok k, trivial⟩, ⟨XM.ok k, trivial⟩, trivial⟩) Yj.t (fun k => ⟨Yj.s0 k, trivial⟩) k
theorem Xc.ok (k : Nat) : Ok Tryz.prog U 34 (Xc.c k) := fn_ok PL mx Tryz.func34 rfl Xc.d (g := fun k => (Xc.c k).f) Xc.o Xc.i trivial (fun k => trivial) Xc.t (fun k => trivial) k
theorem Wo.ok (k : Nat) : Ok Tryz.prog U 166 (Wo.c k) := fn_ok PL mx Tryz.func166 rfl Wo.d (g := fun k => (Wo.c k).f) Wo.o Wo.i trivial (fun k => trivial) Wo.t (fun k => trivial) k
theorem Zp.ok (k : Nat) : Ok Tryz.prog U 39 (Zp.c k) := fn_ok PL mx Tryz.func39 rfl Zp.d (g := fun k => (Zp.c k).f) Zp.o Zp.i ⟨fun _ => rfl, trivial⟩ (fun k => ⟨⟨Zw.ok k, trivial⟩, ⟨Zj.ok k, trivial⟩, trivial⟩) Zp.t (fun k => ⟨Zp.s0 k, trivial⟩) k
theorem Zx.ok (k : Nat) : Ok Tryz.prog U 138 (Zx.c k) := fn_ok PL mx Tryz.func138 rfl Zx.d (g := fun k => (Zx.c k).f) Zx.o Zx.i ⟨fun _ => rfl, trivial⟩ (fun k => ⟨⟨Wo.ok k, trivial⟩, ⟨Zp.ok k, trivial⟩, ⟨Zj.ok k, trivial⟩, trivial⟩) Zx.t (fun k => ⟨Zx.s0 k, trivial⟩) k
theorem YQ.ok (k : Nat) : Ok Tryz.prog U 101 (YQ.c k) := fn_ok PL mx Tryz.func101 rfl YQ.d (g := fun k => (YQ.c k).f) YQ.o YQ.i ⟨fun _ => rfl, trivial⟩ (fun k => ⟨⟨Zd.ok k, trivial⟩, ⟨Zx.ok k, trivial⟩, trivial⟩) YQ.t (fun k => ⟨YQ.s0 k, trivial⟩) k
theorem Wl.ok (k : Nat) : Ok Tryz.prog U 140 (Wl.c k) := fn_ok PL mx Tryz.func140 rfl Wl.d (g := fun k => (Wl.c k).f) Wl.o Wl.i trivial (fun k => ⟨⟨Zj.ok k, trivial⟩, ⟨Wo.ok k, trivial⟩, trivial⟩) Wl.t (fun k => trivial) k
theorem Wr.ok (k : Nat) : Ok Tryz.prog U 197 (Wr.c k) := fn_ok PL mx Tryz.func197 rfl Wr.d (g := fun k => (Wr.c k).f) Wr.o Wr.i trivial (fun k => ⟨⟨Zw.ok k, trivial⟩, trivial⟩) Wr.t (fun k => trivial) k
theorem XB.ok (k : Nat) : Ok Tryz.prog U 187 (XB.c k) := fn_ok PL mx Tryz.func187 rfl XB.d (g := fun k => (XB.c k).f) XB.o XB.i ⟨fun _ => rfl, trivial⟩ (fun k => ⟨⟨Wr.ok k, trivial⟩, trivial⟩) XB.t (fun k => ⟨XB.s0 k, trivial⟩) k
theorem Xg.ok (k : Nat) : Ok Tryz.prog U 167 (Xg.c k) := fn_ok PL mx Tryz.func167 rfl Xg.d (g := fun k => (Xg.c k).f) Xg.o Xg.i trivial (fun k => ⟨⟨XB.ok k, trivial⟩, trivial⟩) Xg.t (fun k => trivial) k
theorem Xb.ok (k : Nat) : Ok Tryz.prog U 139 (Xb.c k) := fn_ok PL mx Tryz.func139 rfl Xb.d (g := fun k => (Xb.c k).f) Xb.o Xb.i trivial (fun k => ⟨⟨Xg.ok k, trivial⟩, trivial⟩) Xb.t (fun k => trivial) k
theorem YK.ok (k : Nat) : Ok Tryz.prog U 141 (YK.c k) := fn_ok PL mx Tryz.func141 rfl YK.d (g := fun k => (YK.c k).f) YK.o YK.i trivial (fun k => ⟨⟨Zw.ok k, trivial⟩, trivial⟩) YK.t (fun k => trivial) k
theorem XU.ok (k : Nat) : Ok Tryz.prog U 142 (XU.c k) := fn_ok PL mx Tryz.func142 rfl XU.d (g := fun k => (XU.c k).f) XU.o XU.i trivial (fun k => ⟨⟨Zw.ok k, trivial⟩, ⟨XT.ok k, trivial⟩, ⟨YK.ok k, trivial⟩, ⟨Zj.ok k, trivial⟩, trivial⟩) XU.t (fun k => trivial) k
theorem YZ.ok (k : Nat) : Ok Tryz.prog U 102 (YZ.c k) := fn_ok PL mx Tryz.func102 rfl YZ.d (g := fun k => (YZ.c k).f) YZ.o YZ.i trivial (fun k => ⟨⟨Wl.ok k, trivial⟩, ⟨Xb.ok k, trivial⟩, ⟨YK.ok k, trivial⟩, ⟨XU.ok k, trivial⟩, trivial⟩) YZ.t (fun k => trivial) k
theorem XV.ok (k : Nat) : Ok Tryz.prog U 54 (XV.c k) := fn_ok PL mx Tryz.func54 rfl XV.d (g := fun k => (XV.c k).f) XV.o XV.i trivial (fun k => ⟨⟨Yv.ok k, trivial⟩, ⟨Yj.ok k, trivial⟩, ⟨Zd.ok k, trivial⟩, ⟨Xc.ok k, trivial⟩, ⟨Wc.ok k, trivial⟩, ⟨YQ.ok k, trivial⟩, ⟨YZ.ok k, trivial⟩, trivial⟩) XV.t (fun k => trivial) k
theorem Y5.ok (k : Nat) : Ok Tryz.prog U 57 (Y5.c k) := fn_ok PL mx Tryz.func57 rfl Y5.d (g := fun k => (Y5.c k).f) Y5.o Y5.i trivial (fun k => trivial) Y5.t (fun k => trivial) k
theorem Yr.ok (k : Nat) : Ok Tryz.prog U 168 (Yr.c k) := fn_ok PL mx Tryz.func168 rfl Yr.d (g := fun k => (Yr.c k).f) Yr.o Yr.i ⟨fun _ => rfl, trivial⟩ (fun k => ⟨⟨ZE.ok k, trivial⟩, trivial⟩) Yr.t (fun k => ⟨Yr.s0 k, trivial⟩) k
theorem XW.ok (k : Nat) : Ok Tryz.prog U 143 (XW.c k) := fn_ok PL mx Tryz.func143 rfl XW.d (g := fun k => (XW.c k).f) XW.o XW.i trivial (fun k => ⟨⟨Yr.ok k, trivial⟩, trivial⟩) XW.t (fun k => trivial) k
theorem XX.ok (k : Nat) : Ok Tryz.prog U 104 (XX.c k) := fn_ok PL mx Tryz.func104 rfl XX.d (g := fun k => (XX.c k).f) XX.o XX.i trivial (fun k => ⟨⟨XW.ok k, trivial⟩, ⟨Xv.ok k, trivial⟩, trivial⟩) XX.t (fun k => trivial) k
theorem Yn.ok (k : Nat) : Ok Tryz.prog U 77 (Yn.c k) := fn_ok PL mx Tryz.func77 rfl Yn.d (g := fun k => (Yn.c k).f) Yn.o Yn.i trivial (fun k => ⟨⟨YE.ok k, trivial⟩, ⟨Zw.ok k, trivial⟩, ⟨Zj.ok k, trivial⟩, trivial⟩) Yn.t (fun k => trivial) k
theorem Xd.ok (k : Nat) : Ok Tryz.prog U 145 (Xd.c k) := fn_ok PL mx Tryz.func145 rfl Xd.d (g := fun k => (Xd.c k).f) Xd.o Xd.i trivial (fun k => ⟨⟨Zj.ok k, trivial⟩, trivial⟩) Xd.t (fun k => trivial) k
theorem Xh.ok (k : Nat) : Ok Tryz.prog U 105 (Xh.c k) := fn_ok PL mx Tryz.func105 rfl Xh.d (g := fun k => (Xh.c k).f) Xh.o Xh.i trivial (fun k => ⟨⟨XU.ok k, trivial⟩, ⟨Xd.ok k, trivial⟩, ⟨Xb.ok k, trivial⟩, trivial⟩) Xh.t (fun k => trivial) k
theorem Wm.ok (k : Nat) : Ok Tryz.prog U 169 (Wm.c k) := fn_ok PL mx Tryz.func169 rfl Wm.d (g := fun k => (Wm.c k).f) Wm.o Wm.i trivial (fun k => ⟨⟨Zj.ok k, trivial⟩, trivial⟩) Wm.t (fun k => trivial) k
theorem XD.ok (k : Nat) : Ok Tryz.prog U 146 (XD.c k) := fn_ok PL mx Tryz.func146 rfl XD.d (g := fun k => (XD.c k).f) XD.o XD.i trivial (fun k => ⟨⟨Wm.ok k, trivial⟩, trivial⟩) XD.t (fun k => trivial) k
theorem Xi.ok (k : Nat) : Ok Tryz.prog U 106 (Xi.c k) := fn_ok PL mx Tryz.func106 rfl Xi.d (g := fun k => (Xi.c k).f) Xi.o Xi.i trivial (fun k => ⟨⟨XD.ok k, trivial⟩, trivial⟩) Xi.t (fun k => trivial) k
theorem ZZ.ok (k : Nat) : Ok Tryz.prog U 147 (ZZ.c k) := fn_ok PL mx Tryz.func147 rfl ZZ.d (g := fun k => (ZZ.c k).f) ZZ.o ZZ.i ⟨fun _ => rfl, trivial⟩ (fun k => trivial) ZZ.t (fun k => ⟨ZZ.s0 k, trivial⟩) k
theorem Xj.ok (k : Nat) : Ok Tryz.prog U 107 (Xj.c k) := fn_ok PL mx Tryz.func107 rfl Xj.d (g := fun k => (Xj.c k).f) Xj.o Xj.i trivial (fun k => ⟨⟨ZZ.ok k, trivial⟩, trivial⟩) Xj.t (fun k => trivial) k
theorem Ye.ok (k : Nat) : Ok Tryz.prog U 148 (Ye.c k) := fn_ok PL mx Tryz.func148 rfl Ye.d (g := fun k => (Ye.c k).f) Ye.o Ye.i trivial (fun k => ⟨⟨Y5.ok k, trivial⟩, trivial⟩) Ye.t (fun k => trivial) k
theorem ZP.ok (k : Nat) : Ok Tryz.prog U 108 (ZP.c k) := fn_ok PL mx Tryz.func108 rfl ZP.d (g := fun k => (ZP.c k).f) ZP.o ZP.i ⟨fun _ => rfl, trivial⟩ (fun k => ⟨⟨Ye.ok k, trivial⟩, trivial⟩) ZP.t (fun k => ⟨ZP.s0 k, trivial⟩) k
theorem Z6.ring (k : Nat) : Ok Tryz.prog U 172 (Z6.c k) := ring_ind (Q := fun k => Ok Tryz.prog U 172 (Z6.c k)) (zero_ok (ent_of Tryz.func172 rfl (by kernel_rfl)) (fun _ => rfl)) (fun k ih => ring_ok PL mx Tryz.func172 rfl Z6.d (g := fun k => (Z6.c k).f) Z6.o Z6.i ⟨fun _ => rfl, trivial⟩ Z6.t (fun k => ⟨Z6.s0 k, trivial⟩) k (fun j hj => ⟨⟨(ih j hj), trivial⟩, trivial⟩)) k
theorem Z6.ok (k : Nat) : Ok Tryz.prog U 172 (Z6.c k) := (Z6.ring k)
theorem ZS.ok (k : Nat) : Ok Tryz.prog U 201 (ZS.c k) := fn_ok PL mx Tryz.func201 rfl ZS.d (g := fun k => (ZS.c k).f) ZS.o ZS.i trivial (fun k => trivial) ZS.t (fun k => trivial) k
theorem YW.ok (k : Nat) : Ok Tryz.prog U 190 (YW.c k) := fn_ok PL mx Tryz.func190 rfl YW.d (g := fun k => (YW.c k).f) YW.o YW.i trivial (fun k => ⟨⟨Zw.ok k, trivial⟩, ⟨Zj.ok k, trivial⟩, ⟨ZS.ok k, trivial⟩, trivial⟩) YW.t (fun k => trivial) k
theorem ZQ.ring (k : Nat) : Ok Tryz.prog U 173 (ZQ.c k) := ring_ind (Q := fun k => Ok Tryz.prog U 173 (ZQ.c k)) (zero_ok (ent_of Tryz.func173 rfl (by kernel_rfl)) (fun _ => rfl)) (fun k ih => ring_ok PL mx Tryz.func173 rfl ZQ.d (g := fun k => (ZQ.c k).f) ZQ.o ZQ.i ⟨fun _ => rfl, trivial⟩ ZQ.t (fun k => ⟨ZQ.s0 k, trivial⟩) k (fun j hj => ⟨⟨YW.ok j, trivial⟩, ⟨(ih j hj), trivial⟩, trivial⟩)) k
theorem ZQ.ok (k : Nat) : Ok Tryz.prog U 173 (ZQ.c k) := (ZQ.ring k)
theorem XP.ok (k : Nat) : Ok Tryz.prog U 155 (XP.c k) := fn_ok PL mx Tryz.func155 rfl XP.d (g := fun k => (XP.c k).f) XP.o XP.i trivial (fun k => ⟨⟨Z6.ok k, trivial⟩, ⟨ZQ.ok k, trivial⟩, trivial⟩) XP.t (fun k => trivial) k
theorem Wa.ok (k : Nat) : Ok Tryz.prog U 123 (Wa.c k) := fn_ok PL mx Tryz.func123 rfl Wa.d (g := fun k => (Wa.c k).f) Wa.o Wa.i trivial (fun k => ⟨⟨Zw.ok k, trivial⟩, ⟨XP.ok k, trivial⟩, ⟨YE.ok k, trivial⟩, trivial⟩) Wa.t (fun k => trivial) k
theorem ZX.ok (k : Nat) : Ok Tryz.prog U 81 (ZX.c k) := fn_ok PL mx Tryz.func81 rfl ZX.d (g := fun k => (ZX.c k).f) ZX.o ZX.i ⟨fun _ => rfl, trivial⟩ (fun k => ⟨⟨Wa.ok k, trivial⟩, ⟨Zw.ok k, trivial⟩, trivial⟩) ZX.t (fun k => ⟨ZX.s0 k, trivial⟩) k
theorem Wj.ok (k : Nat) : Ok Tryz.prog U 153 (Wj.c k) := fn_ok PL mx Tryz.func153 rfl Wj.d (g := fun k => (Wj.c k).f) Wj.o Wj.i trivial (fun k => trivial) Wj.t (fun k => trivial) k
theorem Y0.ok (k : Nat) : Ok Tryz.prog U 205 (Y0.c k) := fn_ok PL mx Tryz.func205 rfl Y0.d (g := fun k => (Y0.c k).f) Y0.o Y0.i trivial (fun k => ⟨⟨Xz.ok k, trivial⟩, ⟨Xd.ok k, trivial⟩, ⟨XD.ok k, trivial⟩, trivial⟩) Y0.t (fun k => trivial) k
theorem Ze.ok (k : Nat) : Ok Tryz.prog U 122 (Ze.c k) := fn_ok PL mx Tryz.func122 rfl Ze.d (g := fun k => (Ze.c k).f) Ze.o Ze.i ⟨fun _ => rfl, fun _ => rfl, fun _ => rfl, trivial⟩ (fun k => ⟨⟨Zw.ok k, trivial⟩, trivial⟩) Ze.t (fun k => ⟨Ze.s0 k, Ze.s1 k, Ze.s2 k, trivial⟩) k
theorem Zi.ok (k : Nat) : Ok Tryz.prog U 204 (Zi.c k) := fn_ok PL mx Tryz.func204 rfl Zi.d (g := fun k => (Zi.c k).f) Zi.o Zi.i ⟨fun _ => rfl, fun _ => rfl, fun _ => rfl, trivial⟩ (fun k => ⟨⟨Y0.ok k, trivial⟩, ⟨Ze.ok k, trivial⟩, trivial⟩) Zi.t (fun k => ⟨Zi.s0 k, Zi.s1 k, Zi.s2 k, trivial⟩) k
theorem Yo.ok (k : Nat) : Ok Tryz.prog U 121 (Yo.c k) := fn_ok PL mx Tryz.func121 rfl Yo.d (g := fun k => (Yo.c k).f) Yo.o Yo.i ⟨fun _ => rfl, trivial⟩ (fun k => trivial) Yo.t (fun k => ⟨Yo.s0 k, trivial⟩) k
theorem XY.ok (k : Nat) : Ok Tryz.prog U 198 (XY.c k) := fn_ok PL mx Tryz.func198 rfl XY.d (g := fun k => (XY.c k).f) XY.o XY.i trivial (fun k => ⟨⟨Zi.ok k, trivial⟩, ⟨Yo.ok k, trivial⟩, trivial⟩) XY.t (fun k => trivial) k
theorem ZU.ok (k : Nat) : Ok Tryz.prog U 199 (ZU.c k) := fn_ok PL mx Tryz.func199 rfl ZU.d (g := fun k => (ZU.c k).f) ZU.o ZU.i ⟨fun _ => rfl, trivial⟩ (fun k => ⟨⟨Y0.ok k, trivial⟩, trivial⟩) ZU.t (fun k => ⟨ZU.s0 k, trivial⟩) k
theorem ZJ.ok (k : Nat) : Ok Tryz.prog U 200 (ZJ.c k) := fn_ok PL mx Tryz.func200 rfl ZJ.d (g := fun k => (ZJ.c k).f) ZJ.o ZJ.i ⟨fun _ => rfl, trivial⟩ (fun k => ⟨⟨Y0.ok k, trivial⟩, ⟨Wc.ok k, trivial⟩, trivial⟩) ZJ.t (fun k => ⟨ZJ.s0 k, trivial⟩) k
theorem Xk.ok (k : Nat) : Ok Tryz.prog U 189 (Xk.c k) := fn_ok PL mx Tryz.func189 rfl Xk.d (g := fun k => (Xk.c k).f) Xk.o Xk.i trivial (fun k => ⟨⟨XY.ok k, trivial⟩, ⟨ZU.ok k, trivial⟩, ⟨ZJ.ok k, trivial⟩, trivial⟩) Xk.t (fun k => trivial) k
theorem YF.ring (k : Nat) : Ok Tryz.prog U 171 (YF.c k) := ring_ind (Q := fun k => Ok Tryz.prog U 171 (YF.c k)) (zero_ok (ent_of Tryz.func171 rfl (by kernel_rfl)) (fun _ => rfl)) (fun k ih => ring_ok PL mx Tryz.func171 rfl YF.d (g := fun k => (YF.c k).f) YF.o YF.i trivial YF.t (fun k => trivial) k (fun j hj => ⟨⟨(ih j hj), trivial⟩, ⟨Xk.ok j, trivial⟩, trivial⟩)) k
theorem YF.ok (k : Nat) : Ok Tryz.prog U 171 (YF.c k) := (YF.ring k)
theorem Xx.ok (k : Nat) : Ok Tryz.prog U 154 (Xx.c k) := fn_ok PL mx Tryz.func154 rfl Xx.d (g := fun k => (Xx.c k).f) Xx.o Xx.i trivial (fun k => ⟨⟨XP.ok k, trivial⟩, ⟨YF.ok k, trivial⟩, trivial⟩) Xx.t (fun k => trivial) k
theorem Zq.ok (k : Nat) : Ok Tryz.prog U 120 (Zq.c k) := fn_ok PL mx Tryz.func120 rfl Zq.d (g := fun k => (Zq.c k).f) Zq.o Zq.i ⟨fun _ => rfl, trivial⟩ (fun k => ⟨⟨Wj.ok k, trivial⟩, ⟨Xx.ok k, trivial⟩, trivial⟩) Zq.t (fun k => ⟨Zq.s0 k, trivial⟩) k
theorem ZV.ok (k : Nat) : Ok Tryz.prog U 78 (ZV.c k) := fn_ok PL mx Tryz.func78 rfl ZV.d (g := fun k => (ZV.c k).f) ZV.o ZV.i ⟨fun _ => rfl, trivial⟩ (fun k => ⟨⟨Yn.ok k, trivial⟩, ⟨ZX.ok k, trivial⟩, ⟨Zq.ok k, trivial⟩, trivial⟩) ZV.t (fun k => ⟨ZV.s0 k, trivial⟩) k
theorem ZG.ok (k : Nat) : Ok Tryz.prog U 149 (ZG.c k) := fn_ok PL mx Tryz.func149 rfl ZG.d (g := fun k => (ZG.c k).f) ZG.o ZG.i ⟨fun _ => rfl, trivial⟩ (fun k => ⟨⟨Yn.ok k, trivial⟩, ⟨ZX.ok k, trivial⟩, ⟨Zw.ok k, trivial⟩, ⟨ZV.ok k, trivial⟩, ⟨Y5.ok k, trivial⟩, trivial⟩) ZG.t (fun k => ⟨ZG.s0 k, trivial⟩) k
theorem YA.ok (k : Nat) : Ok Tryz.prog U 109 (YA.c k) := fn_ok PL mx Tryz.func109 rfl YA.d (g := fun k => (YA.c k).f) YA.o YA.i trivial (fun k => ⟨⟨ZV.ok k, trivial⟩, ⟨ZG.ok k, trivial⟩, trivial⟩) YA.t (fun k => trivial) k
theorem Z9.ok (k : Nat) : Ok Tryz.prog U 110 (Z9.c k) := fn_ok PL mx Tryz.func110 rfl Z9.d (g := fun k => (Z9.c k).f) Z9.o Z9.i ⟨fun _ => rfl, trivial⟩ (fun k => ⟨⟨Ye.ok k, trivial⟩, trivial⟩) Z9.t (fun k => ⟨Z9.s0 k, trivial⟩) k
theorem XE.ok (k : Nat) : Ok Tryz.prog U 56 (XE.c k) := fn_ok PL mx Tryz.func56 rfl XE.d (g := fun k => (XE.c k).f) XE.o XE.i trivial (fun k => ⟨⟨XX.ok k, trivial⟩, ⟨Yn.ok k, trivial⟩, ⟨Xh.ok k, trivial⟩, ⟨Xi.ok k, trivial⟩, ⟨Xj.ok k, trivial⟩, ⟨ZP.ok k, trivial⟩, ⟨YA.ok k, trivial⟩, ⟨Z9.ok k, trivial⟩, trivial⟩) XE.t (fun k => trivial) k
theorem YR.ok (k : Nat) : Ok Tryz.prog U 16 (YR.c k) := fn_ok PL mx Tryz.func16 rfl YR.d (g := fun k => (YR.c k).f) YR.o YR.i ⟨fun _ => rfl, trivial⟩ (fun k => ⟨⟨XV.ok k, trivial⟩, ⟨Zd.ok k, trivial⟩, ⟨Wc.ok k, trivial⟩, ⟨Y5.ok k, trivial⟩, ⟨XE.ok k, trivial⟩, trivial⟩) YR.t (fun k => ⟨YR.s0 k, trivial⟩) k
theorem XZ.ok (k : Nat) : Ok Tryz.prog U 59 (XZ.c k) := fn_ok PL mx Tryz.func59 rfl XZ.d (g := fun k => (XZ.c k).f) XZ.o XZ.i trivial (fun k => ⟨⟨Zd.ok k, trivial⟩, ⟨Yz.ok k, trivial⟩, ⟨YZ.ok k, trivial⟩, trivial⟩) XZ.t (fun k => trivial) k
theorem Wb.ok (k : Nat) : Ok Tryz.prog U 60 (Wb.c k) := fn_ok PL mx Tryz.func60 rfl Wb.d (g := fun k => (Wb.c k).f) Wb.o Wb.i trivial (fun k => ⟨⟨YN.ok k, trivial⟩, ⟨Ym.ok k, trivial⟩, ⟨Zd.ok k, trivial⟩, ⟨Yz.ok k, trivial⟩, trivial⟩) Wb.t (fun k => trivial) k
theorem XQ.ok (k : Nat) : Ok Tryz.prog U 61 (XQ.c k) := fn_ok PL mx Tryz.func61 rfl XQ.d (g := fun k => (XQ.c k).f) XQ.o XQ.i trivial (fun k => ⟨⟨YN.ok k, trivial⟩, ⟨Ym.ok k, trivial⟩, ⟨Zd.ok k, trivial⟩, trivial⟩) XQ.t (fun k => trivial) k
theorem We.ok (k : Nat) : Ok Tryz.prog U 18 (We.c k) := fn_ok PL mx Tryz.func18 rfl We.d (g := fun k => (We.c k).f) We.o We.i trivial (fun k => ⟨⟨XZ.ok k, trivial⟩, ⟨Zd.ok k, trivial⟩, ⟨Ym.ok k, trivial⟩, ⟨Wb.ok k, trivial⟩, ⟨XQ.ok k, trivial⟩, trivial⟩) We.t (fun k => trivial) k
theorem X7.ok (k : Nat) : Ok Tryz.prog U 19 (X7.c k) := fn_ok PL mx Tryz.func19 rfl X7.d (g := fun k => (X7.c k).f) X7.o X7.i trivial (fun k => ⟨⟨YJ.ok k, trivial⟩, ⟨Zd.ok k, trivial⟩, ⟨Wb.ok k, trivial⟩, ⟨Ym.ok k, trivial⟩, ⟨XQ.ok k, trivial⟩, trivial⟩) X7.t (fun k => trivial) k
theorem YB.ok (k : Nat) : Ok Tryz.prog U 5 (YB.c k) := fn_ok PL mx Tryz.func5 rfl YB.d (g := fun k => (YB.c k).f) YB.o YB.i trivial (fun k => ⟨⟨Y9.ok k, trivial⟩, ⟨YR.ok k, trivial⟩, ⟨YN.ok k, trivial⟩, ⟨We.ok k, trivial⟩, ⟨X7.ok k, trivial⟩, ⟨Ym.ok k, trivial⟩, trivial⟩) YB.t (fun k => trivial) k
theorem Ya.ring (k : Nat) : Ok Tryz.prog U 170 (Ya.c k) := ring_ind (Q := fun k => Ok Tryz.prog U 170 (Ya.c k)) (zero_ok (ent_of Tryz.func170 rfl (by kernel_rfl)) (fun _ => rfl)) (fun k ih => ring_ok PL mx Tryz.func170 rfl Ya.d (g := fun k => (Ya.c k).f) Ya.o Ya.i ⟨fun _ => rfl, trivial⟩ Ya.t (fun k => ⟨Ya.s0 k, trivial⟩) k (fun j hj => ⟨⟨(ih j hj), trivial⟩, trivial⟩)) k
theorem Ya.ok (k : Nat) : Ok Tryz.prog U 170 (Ya.c k) := (Ya.ring k)
theorem Yk.ok (k : Nat) : Ok Tryz.prog U 150 (Yk.c k) := fn_ok PL mx Tryz.func150 rfl Yk.d (g := fun k => (Yk.c k).f) Yk.o Yk.i ⟨fun _ => rfl, trivial⟩ (fun k => ⟨⟨Ya.ok k, trivial⟩, trivial⟩) Yk.t (fun k => ⟨Yk.s0 k, trivial⟩) k
theorem Y6.ok (k : Nat) : Ok Tryz.prog U 112 (Y6.c k) := fn_ok PL mx Tryz.func112 rfl Y6.d (g := fun k => (Y6.c k).f) Y6.o Y6.i trivial (fun k => ⟨⟨Yk.ok k, trivial⟩, trivial⟩) Y6.t (fun k => trivial) k
theorem Xl.ok (k : Nat) : Ok Tryz.prog U 63 (Xl.c k) := fn_ok PL mx Tryz.func63 rfl Xl.d (g := fun k => (Xl.c k).f) Xl.o Xl.i trivial (fun k => ⟨⟨Y6.ok k, trivial⟩, trivial⟩) Xl.t (fun k => trivial) k
theorem Xm.ok (k : Nat) : Ok Tryz.prog U 64 (Xm.c k) := fn_ok PL mx Tryz.func64 rfl Xm.d (g := fun k => (Xm.c k).f) Xm.o Xm.i trivial (fun k => trivial) Xm.t (fun k => trivial) k
theorem Xn.ok (k : Nat) : Ok Tryz.prog U 21 (Xn.c k) := fn_ok PL mx Tryz.func21 rfl Xn.d (g := fun k => (Xn.c k).f) Xn.o Xn.i trivial (fun k => ⟨⟨Xl.ok k, trivial⟩, ⟨Xm.ok k, trivial⟩, trivial⟩) Xn.t (fun k => trivial) k
theorem Zc.ok (k : Nat) : Ok Tryz.prog U 41 (Zc.c k) := fn_ok PL mx Tryz.func41 rfl Zc.d (g := fun k => (Zc.c k).f) Zc.o Zc.i trivial (fun k => trivial) Zc.t (fun k => trivial) k
theorem XF.ok (k : Nat) : Ok Tryz.prog U 84 (XF.c k) := fn_ok PL mx Tryz.func84 rfl XF.d (g := fun k => (XF.c k).f) XF.o XF.i trivial (fun k => ⟨⟨Zc.ok k, trivial⟩, trivial⟩) XF.t (fun k => trivial) k
theorem Wf.ok (k : Nat) : Ok Tryz.prog U 85 (Wf.c k) := fn_ok PL mx Tryz.func85 rfl Wf.d (g := fun k => (Wf.c k).f) Wf.o Wf.i trivial (fun k => ⟨⟨XF.ok k, trivial⟩, trivial⟩) Wf.t (fun k => trivial) k
theorem YG.ok (k : Nat) : Ok Tryz.prog U 40 (YG.c k) := fn_ok PL mx Tryz.func40 rfl YG.d (g := fun k => (YG.c k).f) YG.o YG.i trivial (fun k => ⟨⟨XF.ok k, trivial⟩, ⟨Wf.ok k, trivial⟩, trivial⟩) YG.t (fun k => trivial) k
theorem Yf.ok (k : Nat) : Ok Tryz.prog U 26 (Yf.c k) := fn_ok PL mx Tryz.func26 rfl Yf.d (g := fun k => (Yf.c k).f) Yf.o Yf.i trivial (fun k => ⟨⟨Zc.ok k, trivial⟩, trivial⟩) Yf.t (fun k => trivial) k
theorem Yi.ok (k : Nat) : Ok Tryz.prog U 9 (Yi.c k) := fn_ok PL mx Tryz.func9 rfl Yi.d (g := fun k => (Yi.c k).f) Yi.o Yi.i trivial (fun k => ⟨⟨YG.ok k, trivial⟩, ⟨Zc.ok k, trivial⟩, ⟨Yf.ok k, trivial⟩, trivial⟩) Yi.t (fun k => trivial) k
theorem Y7.ok (k : Nat) : Ok Tryz.prog U 86 (Y7.c k) := fn_ok PL mx Tryz.func86 rfl Y7.d (g := fun k => (Y7.c k).f) Y7.o Y7.i trivial (fun k => ⟨⟨Zc.ok k, trivial⟩, trivial⟩) Y7.t (fun k => trivial) k
theorem Wg.ok (k : Nat) : Ok Tryz.prog U 42 (Wg.c k) := fn_ok PL mx Tryz.func42 rfl Wg.d (g := fun k => (Wg.c k).f) Wg.o Wg.i trivial (fun k => ⟨⟨Zc.ok k, trivial⟩, ⟨XF.ok k, trivial⟩, ⟨Y7.ok k, trivial⟩, ⟨Yf.ok k, trivial⟩, trivial⟩) Wg.t (fun k => trivial) k
theorem Xe.ok (k : Nat) : Ok Tryz.prog U 43 (Xe.c k) := fn_ok PL mx Tryz.func43 rfl Xe.d (g := fun k => (Xe.c k).f) Xe.o Xe.i trivial (fun k => ⟨⟨Yf.ok k, trivial⟩, ⟨Zc.ok k, trivial⟩, trivial⟩) Xe.t (fun k => trivial) k
theorem info3v : (Tryz.prog.info? 3).map (fun i => (i.zero, i.size, i.bytes)) = some (some (.int .i64 0), 1, 8) := by kernel_rfl
theorem Wk.ok (k : Nat) : Ok Tryz.prog U 157 (Wk.c k) := grow_given (U := U) (e := 3) (g := fun l a => Wk.f l a) (ent_of Tryz.func157 rfl (by kernel_rfl)) (fun (l : List Int) n (r : List Int) h => by
  have h : Wk.f l n = some r := h
  unfold Wk.f at h
  split at h
  · split at h
    · cases h; exact ⟨rfl, by assumption, by assumption⟩
    · cases h
  · cases h) (fun n w h0 h1 => by
  obtain ⟨i0, hi0, he⟩ := Option.map_eq_some_iff.1 info3v
  injection he with hz0 he
  injection he with hs0 hb0
  refine (Any8.slices_Grow_grow Tryz.growI i0 _ hi0 hz0 (by rw [hs0]; decide) none 0 0 n [] w (by omega) (by omega) (by rw [hb0]; omega) (by omega) (by simp) (fun _ => rfl) (fun a e => by cases e)).mono ?_
  rintro e w' ⟨rfl, rfl⟩
  refine ⟨_, _, rfl, rfl, ?_⟩
  have h := grownCap_ge w (0 + n) 0 (Tryz.growI_ren.t 25)
  have e1 : U.sz 3 = 1 := rfl
  have e2 : (Value.int .i64 0).cells.size = 1 := rfl
  rw [Nat.zero_add] at h
  simp [Builtin.zeroCells, e1, e2]
  omega)
theorem Zz.ok (k : Nat) : Ok Tryz.prog U 125 (Zz.c k) := fn_ok PL mx Tryz.func125 rfl Zz.d (g := fun k => (Zz.c k).f) Zz.o Zz.i ⟨fun _ => rfl, fun _ => rfl, trivial⟩ (fun k => ⟨⟨Wk.ok k, trivial⟩, trivial⟩) Zz.t (fun k => ⟨Zz.s0 k, Zz.s1 k, trivial⟩) k
theorem Ws.ok (k : Nat) : Ok Tryz.prog U 156 (Ws.c k) := fn_ok PL mx Tryz.func156 rfl Ws.d (g := fun k => (Ws.c k).f) Ws.o Ws.i trivial (fun k => ⟨⟨Zc.ok k, trivial⟩, trivial⟩) Ws.t (fun k => trivial) k
theorem X5.ok (k : Nat) : Ok Tryz.prog U 124 (X5.c k) := fn_ok PL mx Tryz.func124 rfl X5.d (g := fun k => (X5.c k).f) X5.o X5.i ⟨fun _ => rfl, trivial⟩ (fun k => ⟨⟨Ws.ok k, trivial⟩, trivial⟩) X5.t (fun k => ⟨X5.s0 k, trivial⟩) k
theorem Xo.ok (k : Nat) : Ok Tryz.prog U 87 (Xo.c k) := fn_ok PL mx Tryz.func87 rfl Xo.d (g := fun k => (Xo.c k).f) Xo.o Xo.i trivial (fun k => ⟨⟨Zz.ok k, trivial⟩, ⟨X5.ok k, trivial⟩, trivial⟩) Xo.t (fun k => trivial) k
theorem XG.ok (k : Nat) : Ok Tryz.prog U 44 (XG.c k) := fn_ok PL mx Tryz.func44 rfl XG.d (g := fun k => (XG.c k).f) XG.o XG.i trivial (fun k => ⟨⟨Xo.ok k, trivial⟩, trivial⟩) XG.t (fun k => trivial) k
theorem Y1.ok (k : Nat) : Ok Tryz.prog U 10 (Y1.c k) := fn_ok PL mx Tryz.func10 rfl Y1.d (g := fun k => (Y1.c k).f) Y1.o Y1.i trivial (fun k => ⟨⟨Wg.ok k, trivial⟩, ⟨Xe.ok k, trivial⟩, ⟨XG.ok k, trivial⟩, trivial⟩) Y1.t (fun k => trivial) k
theorem Wi.ok (k : Nat) : Ok Tryz.prog U 88 (Wi.c k) := fn_ok PL mx Tryz.func88 rfl Wi.d (g := fun k => (Wi.c k).f) Wi.o Wi.i trivial (fun k => ⟨⟨Yf.ok k, trivial⟩, trivial⟩) Wi.t (fun k => trivial) k
theorem X0.ok (k : Nat) : Ok Tryz.prog U 45 (X0.c k) := fn_ok PL mx Tryz.func45 rfl X0.d (g := fun k => (X0.c k).f) X0.o X0.i trivial (fun k => ⟨⟨Wi.ok k, trivial⟩, trivial⟩) X0.t (fun k => trivial) k
theorem Y2.ok (k : Nat) : Ok Tryz.prog U 11 (Y2.c k) := fn_ok PL mx Tryz.func11 rfl Y2.d (g := fun k => (Y2.c k).f) Y2.o Y2.i trivial (fun k => ⟨⟨X0.ok k, trivial⟩, trivial⟩) Y2.t (fun k => trivial) k
theorem cl90.ok (k : Nat) : Ok Tryz.prog U 90 (cl90.c k) := fn_ok PL mx Tryz.func90 rfl cl90.d (g := fun k => (cl90.c k).f) cl90.o cl90.i trivial (fun k => trivial) cl90.t (fun k => trivial) k
theorem Zr.ok (k : Nat) : Ok Tryz.prog U 89 (Zr.c k) := fn_ok PL mx Tryz.func89 rfl Zr.d (g := fun k => (Zr.c k).f) Zr.o Zr.i ⟨fun _ => rfl, trivial⟩ (fun k => ⟨⟨cl90.ok k, trivial⟩, trivial⟩) Zr.t (fun k => ⟨Zr.s0 k, trivial⟩) k
theorem Xp.ok (k : Nat) : Ok Tryz.prog U 46 (Xp.c k) := fn_ok PL mx Tryz.func46 rfl Xp.d (g := fun k => (Xp.c k).f) Xp.o Xp.i trivial (fun k => ⟨⟨Zr.ok k, trivial⟩, trivial⟩) Xp.t (fun k => trivial) k
theorem Y3.ok (k : Nat) : Ok Tryz.prog U 12 (Y3.c k) := fn_ok PL mx Tryz.func12 rfl Y3.d (g := fun k => (Y3.c k).f) Y3.o Y3.i trivial (fun k => ⟨⟨Xp.ok k, trivial⟩, ⟨Zc.ok k, trivial⟩, trivial⟩) Y3.t (fun k => trivial) k
theorem XA.ok (k : Nat) : Ok Tryz.prog U 72 (XA.c k) := fn_ok PL mx Tryz.func72 rfl XA.d (g := fun k => (XA.c k).f) XA.o XA.i trivial (fun k => trivial) XA.t (fun k => trivial) k
theorem Yl.ok (k : Nat) : Ok Tryz.prog U 67 (Yl.c k) := fn_ok PL mx Tryz.func67 rfl Yl.d (g := fun k => (Yl.c k).f) Yl.o Yl.i trivial (fun k => ⟨⟨XA.ok k, trivial⟩, trivial⟩) Yl.t (fun k => trivial) k
theorem cl66.ok (k : Nat) : Ok Tryz.prog U 66 (cl66.c k) := fn_ok PL mx Tryz.func66 rfl cl66.d (g := fun k => (cl66.c k).f) cl66.o cl66.i trivial (fun k => ⟨⟨Yl.ok k, trivial⟩, trivial⟩) cl66.t (fun k => trivial) k
theorem Zv.ok (k : Nat) : Ok Tryz.prog U 65 (Zv.c k) := fn_ok PL mx Tryz.func65 rfl Zv.d (g := fun k => (Zv.c k).f) Zv.o Zv.i ⟨fun _ => rfl, trivial⟩ (fun k => ⟨⟨cl66.ok k, trivial⟩, trivial⟩) Zv.t (fun k => ⟨Zv.s0 k, trivial⟩) k
theorem Xq.ok (k : Nat) : Ok Tryz.prog U 22 (Xq.c k) := fn_ok PL mx Tryz.func22 rfl Xq.d (g := fun k => (Xq.c k).f) Xq.o Xq.i trivial (fun k => ⟨⟨Zv.ok k, trivial⟩, trivial⟩) Xq.t (fun k => trivial) k
theorem YC.ring (k : Nat) : Ok Tryz.prog U 159 (YC.c k) := ring_ind (Q := fun k => Ok Tryz.prog U 159 (YC.c k)) (zero_ok (ent_of Tryz.func159 rfl (by kernel_rfl)) (fun _ => rfl)) (fun k ih => ring_ok PL mx Tryz.func159 rfl YC.d (g := fun k => (YC.c k).f) YC.o YC.i ⟨fun _ => rfl, trivial⟩ YC.t (fun k => ⟨YC.s0 k, trivial⟩) k (fun j hj => ⟨⟨(ih j hj), trivial⟩, trivial⟩)) k
theorem YC.ok (k : Nat) : Ok Tryz.prog U 159 (YC.c k) := (YC.ring k)
theorem Yc.ok (k : Nat) : Ok Tryz.prog U 191 (Yc.c k) := fn_ok PL mx Tryz.func191 rfl Yc.d (g := fun k => (Yc.c k).f) Yc.o Yc.i trivial (fun k => ⟨⟨Zc.ok k, trivial⟩, trivial⟩) Yc.t (fun k => trivial) k
theorem XO.ok (k : Nat) : Ok Tryz.prog U 175 (XO.c k) := fn_ok PL mx Tryz.func175 rfl XO.d (g := fun k => (XO.c k).f) XO.o XO.i trivial (fun k => ⟨⟨Zc.ok k, trivial⟩, ⟨Yc.ok k, trivial⟩, trivial⟩) XO.t (fun k => trivial) k
theorem cl177.ring (k : Nat) : Ok Tryz.prog U 177 (cl177.c k) ∧ Ok Tryz.prog U 160 (Y4.c k) ∧ Ok Tryz.prog U 176 (ZF.c k) ∧ Ok Tryz.prog U 192 (Zk.c k) := ring_ind (Q := fun k => Ok Tryz.prog U 177 (cl177.c k) ∧ Ok Tryz.prog U 160 (Y4.c k) ∧ Ok Tryz.prog U 176 (ZF.c k) ∧ Ok Tryz.prog U 192 (Zk.c k)) (⟨zero_ok (ent_of Tryz.func177 rfl (by kernel_rfl)) (fun _ => rfl), zero_ok (ent_of Tryz.func160 rfl (by kernel_rfl)) (fun _ => rfl), zero_ok (ent_of Tryz.func176 rfl (by kernel_rfl)) (fun _ => rfl), zero_ok (ent_of Tryz.func192 rfl (by kernel_rfl)) (fun _ => rfl)⟩) (fun k ih => ⟨ring_ok PL mx Tryz.func177 rfl cl177.d (g := fun k => (cl177.c k).f) cl177.o cl177.i trivial cl177.t (fun k => trivial) k (fun j hj => ⟨⟨(ih j hj).2.1, trivial⟩, trivial⟩), ring_ok PL mx Tryz.func160 rfl Y4.d (g := fun k => (Y4.c k).f) Y4.o Y4.i trivial Y4.t (fun k => trivial) k (fun j hj => ⟨⟨XO.ok j, trivial⟩, ⟨(ih j hj).2.2.1, trivial⟩, trivial⟩), ring_ok PL mx Tryz.func176 rfl ZF.d (g := fun k => (ZF.c k).f) ZF.o ZF.i trivial ZF.t (fun k => trivial) k (fun j hj => ⟨⟨(ih j hj).2.2.2, trivial⟩, trivial⟩), ring_ok PL mx Tryz.func192 rfl Zk.d (g := fun k => (Zk.c k).f) Zk.o Zk.i ⟨fun _ => rfl, trivial⟩ Zk.t (fun k => ⟨Zk.s0 k, trivial⟩) k (fun j hj => ⟨⟨(ih j hj).1, trivial⟩, trivial⟩)⟩) k
theorem Y4.ok (k : Nat) : Ok Tryz.prog U 160 (Y4.c k) := (cl177.ring k).2.1
theorem XR.ok (k : Nat) : Ok Tryz.prog U 129 (XR.c k) := fn_ok PL mx Tryz.func129 rfl XR.d (g := fun k => (XR.c k).f) XR.o XR.i trivial (fun k => ⟨⟨YC.ok k, trivial⟩, ⟨Y4.ok k, trivial⟩, trivial⟩) XR.t (fun k => trivial) k
theorem Wh.ok (k : Nat) : Ok Tryz.prog U 96 (Wh.c k) := fn_ok PL mx Tryz.func96 rfl Wh.d (g := fun k => (Wh.c k).f) Wh.o Wh.i trivial (fun k => ⟨⟨Zc.ok k, trivial⟩, ⟨XR.ok k, trivial⟩, ⟨YG.ok k, trivial⟩, trivial⟩) Wh.t (fun k => trivial) k
theorem cl95.ok (k : Nat) : Ok Tryz.prog U 95 (cl95.c k) := fn_ok PL mx Tryz.func95 rfl cl95.d (g := fun k => (cl95.c k).f) cl95.o cl95.i trivial (fun k => ⟨⟨Wh.ok k, trivial⟩, trivial⟩) cl95.t (fun k => trivial) k
theorem Zn.ok (k : Nat) : Ok Tryz.prog U 128 (Zn.c k) := fn_ok PL mx Tryz.func128 rfl Zn.d (g := fun k => (Zn.c k).f) Zn.o Zn.i ⟨fun _ => rfl, trivial⟩ (fun k => ⟨⟨cl95.ok k, trivial⟩, trivial⟩) Zn.t (fun k => ⟨Zn.s0 k, trivial⟩) k
theorem ZL.ok (k : Nat) : Ok Tryz.prog U 94 (ZL.c k) := fn_ok PL mx Tryz.func94 rfl ZL.d (g := fun k => (ZL.c k).f) ZL.o ZL.i trivial (fun k => ⟨⟨Zn.ok k, trivial⟩, trivial⟩) ZL.t (fun k => trivial) k
theorem YY.ok (k : Nat) : Ok Tryz.prog U 51 (YY.c k) := fn_ok PL mx Tryz.func51 rfl YY.d (g := fun k => (YY.c k).f) YY.o YY.i trivial (fun k => ⟨⟨Zc.ok k, trivial⟩, ⟨ZL.ok k, trivial⟩, trivial⟩) YY.t (fun k => trivial) k
theorem Wn.ok (k : Nat) : Ok Tryz.prog U 97 (Wn.c k) := fn_ok PL mx Tryz.func97 rfl Wn.d (g := fun k => (Wn.c k).f) Wn.o Wn.i trivial (fun k => trivial) Wn.t (fun k => trivial) k
theorem X1.ok (k : Nat) : Ok Tryz.prog U 115 (X1.c k) := fn_ok PL mx Tryz.func115 rfl X1.d (g := fun k => (X1.c k).f) X1.o X1.i trivial (fun k => ⟨⟨YG.ok k, trivial⟩, ⟨Zc.ok k, trivial⟩, trivial⟩) X1.t (fun k => trivial) k
theorem X2.ok (k : Nat) : Ok Tryz.prog U 70 (X2.c k) := fn_ok PL mx Tryz.func70 rfl X2.d (g := fun k => (X2.c k).f) X2.o X2.i trivial (fun k => ⟨⟨X1.ok k, trivial⟩, ⟨Zc.ok k, trivial⟩, ⟨Yf.ok k, trivial⟩, trivial⟩) X2.t (fun k => trivial) k
theorem Xf.ok (k : Nat) : Ok Tryz.prog U 182 (Xf.c k) := fn_ok PL mx Tryz.func182 rfl Xf.d (g := fun k => (Xf.c k).f) Xf.o Xf.i trivial (fun k => ⟨⟨X2.ok k, trivial⟩, ⟨Xe.ok k, trivial⟩, ⟨Wi.ok k, trivial⟩, trivial⟩) Xf.t (fun k => trivial) k
theorem Xw.ok (k : Nat) : Ok Tryz.prog U 113 (Xw.c k) := fn_ok PL mx Tryz.func113 rfl Xw.d (g := fun k => (Xw.c k).f) Xw.o Xw.i trivial (fun k => ⟨⟨Zc.ok k, trivial⟩, trivial⟩) Xw.t (fun k => trivial) k
theorem Zf.ok (k : Nat) : Ok Tryz.prog U 114 (Zf.c k) := fn_ok PL mx Tryz.func114 rfl Zf.d (g := fun k => (Zf.c k).f) Zf.o Zf.i ⟨fun _ => rfl, fun _ => rfl, trivial⟩ (fun k => ⟨⟨Xw.ok k, trivial⟩, trivial⟩) Zf.t (fun k => ⟨Zf.s0 k, Zf.s1 k, trivial⟩) k
theorem Zo.ok (k : Nat) : Ok Tryz.prog U 194 (Zo.c k) := fn_ok PL mx Tryz.func194 rfl Zo.d (g := fun k => (Zo.c k).f) Zo.o Zo.i ⟨fun _ => rfl, trivial⟩ (fun k => ⟨⟨Xw.ok k, trivial⟩, ⟨Zf.ok k, trivial⟩, trivial⟩) Zo.t (fun k => ⟨Zo.s0 k, trivial⟩) k
theorem Wp.ok (k : Nat) : Ok Tryz.prog U 195 (Wp.c k) := sort_given (g := Wp.f) ie3 (ent_of Tryz.func195 rfl (by kernel_rfl)) (fun (l : List Int) (r : List Int) h => by
  unfold Wp.f at h
  split at h
  · rename_i hl
    cases h
    refine ⟨List.length_mergeSort _, fun blk off cap w hH hb hc => ?_⟩
    have e1 : ∀ z : List Int, List.map (fun x => (show Int from x)) z = z := fun z => List.map_id' z
    have := Go.Proofs.Tryz.slices_Sort_int blk off cap l w (by rw [← e1 l]; exact hH) hb (by omega)
    rw [← e1 (l.mergeSort fun x y => decide (x ≤ y))] at this
    exact this
  · cases h) (fun w => Go.Proofs.Tryz.slices_Sort_int_none none 0 w)
theorem cmp_hr (toI : Int → Int) (ht : ∀ x, toI x = x) : ∀ l r : List Int, X9.f l = some r → r.length ≤ l.length ∧ ∀ (blk off cap : Nat) (w : World), Go.Sort.Holds (Value.int .i64) w blk off (l.map toI).toArray → l.length ≤ cap → Calls Tryz.prog 196 #[.slice (some ⟨blk, off, none⟩) l.length cap] w fun e' w' => e' = .returned (.slice (some ⟨blk, off, none⟩) r.length cap) ∧ ∃ n, w' = Go.Sort.putRow (Value.int .i64) (Go.Sort.ahead w n) blk off (r.map toI ++ List.replicate (l.length - r.length) 0).toArray := by
  obtain rfl : toI = id := funext ht
  intro l r h
  unfold X9.f at h
  split at h
  · rename_i hl
    cases h
    refine ⟨Go.Lib.compact_length_le l, fun blk off cap w hH hc => ?_⟩
    rw [List.map_id] at hH
    rw [List.map_id]
    exact Go.Proofs.Tryz.slices_Compact_int blk off cap l w hH (by omega) hc
  · cases h
theorem X9.ok (k : Nat) : Ok Tryz.prog U 196 (X9.c k) := compact_given (g := X9.f) ie3 (ent_of Tryz.func196 rfl (by kernel_rfl)) (cmp_hr (fun x => (show Int from x)) (fun _ => rfl)) (fun w => Go.Proofs.Tryz.slices_Compact_int_empty none 0 w)
theorem YH.ok (k : Nat) : Ok Tryz.prog U 179 (YH.c k) := fn_ok PL mx Tryz.func179 rfl YH.d (g := fun k => (YH.c k).f) YH.o YH.i ⟨fun _ => rfl, trivial⟩ (fun k => ⟨⟨Xf.ok k, trivial⟩, ⟨Zo.ok k, trivial⟩, ⟨Wp.ok k, trivial⟩, ⟨X9.ok k, trivial⟩, trivial⟩) YH.t (fun k => ⟨YH.s0 k, trivial⟩) k
theorem Z7.ok (k : Nat) : Ok Tryz.prog U 193 (Z7.c k) := fn_ok PL mx Tryz.func193 rfl Z7.d (g := fun k => (Z7.c k).f) Z7.o Z7.i ⟨fun _ => rfl, trivial⟩ (fun k => trivial) Z7.t (fun k => ⟨Z7.s0 k, trivial⟩) k
theorem Yp.ok (k : Nat) : Ok Tryz.prog U 178 (Yp.c k) := fn_ok PL mx Tryz.func178 rfl Yp.d (g := fun k => (Yp.c k).f) Yp.o Yp.i trivial (fun k => ⟨⟨Z7.ok k, trivial⟩, trivial⟩) Yp.t (fun k => trivial) k
theorem X3.ok (k : Nat) : Ok Tryz.prog U 161 (X3.c k) := fn_ok PL mx Tryz.func161 rfl X3.d (g := fun k => (X3.c k).f) X3.o X3.i trivial (fun k => ⟨⟨YH.ok k, trivial⟩, ⟨Yp.ok k, trivial⟩, trivial⟩) X3.t (fun k => trivial) k
theorem cl181.ok (k : Nat) : Ok Tryz.prog U 181 (cl181.c k) := fn_ok PL mx Tryz.func181 rfl cl181.d (g := fun k => (cl181.c k).f) cl181.o cl181.i trivial (fun k => ⟨⟨Xf.ok k, trivial⟩, trivial⟩) cl181.t (fun k => trivial) k
theorem Zl.ok (k : Nat) : Ok Tryz.prog U 180 (Zl.c k) := fn_ok PL mx Tryz.func180 rfl Zl.d (g := fun k => (Zl.c k).f) Zl.o Zl.i ⟨fun _ => rfl, trivial⟩ (fun k => ⟨⟨cl181.ok k, trivial⟩, trivial⟩) Zl.t (fun k => ⟨Zl.s0 k, trivial⟩) k
theorem XH.ok (k : Nat) : Ok Tryz.prog U 162 (XH.c k) := fn_ok PL mx Tryz.func162 rfl XH.d (g := fun k => (XH.c k).f) XH.o XH.i trivial (fun k => ⟨⟨Zl.ok k, trivial⟩, trivial⟩) XH.t (fun k => trivial) k
theorem Z8.ok (k : Nat) : Ok Tryz.prog U 163 (Z8.c k) := fn_ok PL mx Tryz.func163 rfl Z8.d (g := fun k => (Z8.c k).f) Z8.o Z8.i ⟨fun _ => rfl, trivial⟩ (fun k => ⟨⟨Xf.ok k, trivial⟩, trivial⟩) Z8.t (fun k => ⟨Z8.s0 k, trivial⟩) k
theorem Xr.ok (k : Nat) : Ok Tryz.prog U 132 (Xr.c k) := fn_ok PL mx Tryz.func132 rfl Xr.d (g := fun k => (Xr.c k).f) Xr.o Xr.i trivial (fun k => ⟨⟨X3.ok k, trivial⟩, ⟨XH.ok k, trivial⟩, ⟨Z8.ok k, trivial⟩, trivial⟩) Xr.t (fun k => trivial) k
theorem cl131.ok (k : Nat) : Ok Tryz.prog U 131 (cl131.c k) := fn_ok PL mx Tryz.func131 rfl cl131.d (g := fun k => (cl131.c k).f) cl131.o cl131.i trivial (fun k => ⟨⟨Xr.ok k, trivial⟩, trivial⟩) cl131.t (fun k => trivial) k
theorem ZK.ring (k : Nat) : Ok Tryz.prog U 130 (ZK.c k) := ring_ind (Q := fun k => Ok Tryz.prog U 130 (ZK.c k)) (zero_ok (ent_of Tryz.func130 rfl (by kernel_rfl)) (fun _ => rfl)) (fun k ih => ring_ok PL mx Tryz.func130 rfl ZK.d (g := fun k => (ZK.c k).f) ZK.o ZK.i trivial ZK.t (fun k => trivial) k (fun j hj => ⟨⟨(ih j hj), trivial⟩, ⟨cl131.ok j, trivial⟩, trivial⟩)) k
theorem ZK.ok (k : Nat) : Ok Tryz.prog U 130 (ZK.c k) := (ZK.ring k)
theorem XI.ok (k : Nat) : Ok Tryz.prog U 98 (XI.c k) := fn_ok PL mx Tryz.func98 rfl XI.d (g := fun k => (XI.c k).f) XI.o XI.i trivial (fun k => ⟨⟨XR.ok k, trivial⟩, ⟨ZK.ok k, trivial⟩, trivial⟩) XI.t (fun k => trivial) k
theorem ZD.ok (k : Nat) : Ok Tryz.prog U 53 (ZD.c k) := fn_ok PL mx Tryz.func53 rfl ZD.d (g := fun k => (ZD.c k).f) ZD.o ZD.i ⟨fun _ => rfl, trivial⟩ (fun k => ⟨⟨Wn.ok k, trivial⟩, ⟨XI.ok k, trivial⟩, trivial⟩) ZD.t (fun k => ⟨ZD.s0 k, trivial⟩) k
theorem YL.ok (k : Nat) : Ok Tryz.prog U 52 (YL.c k) := fn_ok PL mx Tryz.func52 rfl YL.d (g := fun k => (YL.c k).f) YL.o YL.i ⟨fun _ => rfl, trivial⟩ (fun k => trivial) YL.t (fun k => ⟨YL.s0 k, trivial⟩) k
theorem Yx.ok (k : Nat) : Ok Tryz.prog U 14 (Yx.c k) := fn_ok PL mx Tryz.func14 rfl Yx.d (g := fun k => (Yx.c k).f) Yx.o Yx.i trivial (fun k => ⟨⟨Yi.ok k, trivial⟩, ⟨YY.ok k, trivial⟩, ⟨ZD.ok k, trivial⟩, ⟨YL.ok k, trivial⟩, trivial⟩) Yx.t (fun k => trivial) k
theorem ZH.ok (k : Nat) : Ok Tryz.prog U 68 (ZH.c k) := fn_ok PL mx Tryz.func68 rfl ZH.d (g := fun k => (ZH.c k).f) ZH.o ZH.i ⟨fun _ => rfl, trivial⟩ (fun k => ⟨⟨Yi.ok k, trivial⟩, ⟨YY.ok k, trivial⟩, ⟨Zc.ok k, trivial⟩, ⟨Yx.ok k, trivial⟩, ⟨XA.ok k, trivial⟩, trivial⟩) ZH.t (fun k => ⟨ZH.s0 k, trivial⟩) k
theorem YD.ok (k : Nat) : Ok Tryz.prog U 23 (YD.c k) := fn_ok PL mx Tryz.func23 rfl YD.d (g := fun k => (YD.c k).f) YD.o YD.i trivial (fun k => ⟨⟨Yx.ok k, trivial⟩, ⟨ZH.ok k, trivial⟩, trivial⟩) YD.t (fun k => trivial) k
theorem Yt.ok (k : Nat) : Ok Tryz.prog U 24 (Yt.c k) := fn_ok PL mx Tryz.func24 rfl Yt.d (g := fun k => (Yt.c k).f) Yt.o Yt.i ⟨fun _ => rfl, trivial⟩ (fun k => ⟨⟨Yl.ok k, trivial⟩, trivial⟩) Yt.t (fun k => ⟨Yt.s0 k, trivial⟩) k
theorem Xu.ok (k : Nat) : Ok Tryz.prog U 6 (Xu.c k) := fn_ok PL mx Tryz.func6 rfl Xu.d (g := fun k => (Xu.c k).f) Xu.o Xu.i trivial (fun k => ⟨⟨Xn.ok k, trivial⟩, ⟨Yi.ok k, trivial⟩, ⟨Y1.ok k, trivial⟩, ⟨Y2.ok k, trivial⟩, ⟨Y3.ok k, trivial⟩, ⟨Xq.ok k, trivial⟩, ⟨YD.ok k, trivial⟩, ⟨Yt.ok k, trivial⟩, trivial⟩) Xu.t (fun k => trivial) k
theorem XJ.ok (k : Nat) : Ok Tryz.prog U 25 (XJ.c k) := fn_ok PL mx Tryz.func25 rfl XJ.d (g := fun k => (XJ.c k).f) XJ.o XJ.i trivial (fun k => trivial) XJ.t (fun k => trivial) k
theorem Z1.ok (k : Nat) : Ok Tryz.prog U 91 (Z1.c k) := fn_ok PL mx Tryz.func91 rfl Z1.d (g := fun k => (Z1.c k).f) Z1.o Z1.i ⟨fun _ => rfl, trivial⟩ (fun k => trivial) Z1.t (fun k => ⟨Z1.s0 k, trivial⟩) k
theorem Zg.ring (k : Nat) : Ok Tryz.prog U 174 (Zg.c k) ∧ Ok Tryz.prog U 158 (Yu.c k) := ring_ind (Q := fun k => Ok Tryz.prog U 174 (Zg.c k) ∧ Ok Tryz.prog U 158 (Yu.c k)) (⟨zero_ok (ent_of Tryz.func174 rfl (by kernel_rfl)) (fun _ => rfl), zero_ok (ent_of Tryz.func158 rfl (by kernel_rfl)) (fun _ => rfl)⟩) (fun k ih => ⟨ring_ok PL mx Tryz.func174 rfl Zg.d (g := fun k => (Zg.c k).f) Zg.o Zg.i ⟨fun _ => rfl, trivial⟩ Zg.t (fun k => ⟨Zg.s0 k, trivial⟩) k (fun j hj => ⟨⟨(ih j hj).2, trivial⟩, trivial⟩), ring_ok PL mx Tryz.func158 rfl Yu.d (g := fun k => (Yu.c k).f) Yu.o Yu.i trivial Yu.t (fun k => trivial) k (fun j hj => ⟨⟨(ih j hj).1, trivial⟩, trivial⟩)⟩) k
theorem Yu.ok (k : Nat) : Ok Tryz.prog U 158 (Yu.c k) := (Zg.ring k).2
theorem YX.ok (k : Nat) : Ok Tryz.prog U 127 (YX.c k) := fn_ok PL mx Tryz.func127 rfl YX.d (g := fun k => (YX.c k).f) YX.o YX.i trivial (fun k => ⟨⟨Yu.ok k, trivial⟩, trivial⟩) YX.t (fun k => trivial) k
theorem Zh.ok (k : Nat) : Ok Tryz.prog U 126 (Zh.c k) := fn_ok PL mx Tryz.func126 rfl Zh.d (g := fun k => (Zh.c k).f) Zh.o Zh.i ⟨fun _ => rfl, trivial⟩ (fun k => ⟨⟨YX.ok k, trivial⟩, trivial⟩) Zh.t (fun k => ⟨Zh.s0 k, trivial⟩) k
theorem Yq.ok (k : Nat) : Ok Tryz.prog U 92 (Yq.c k) := fn_ok PL mx Tryz.func92 rfl Yq.d (g := fun k => (Yq.c k).f) Yq.o Yq.i trivial (fun k => ⟨⟨Zh.ok k, trivial⟩, trivial⟩) Yq.t (fun k => trivial) k
theorem YS.ok (k : Nat) : Ok Tryz.prog U 47 (YS.c k) := fn_ok PL mx Tryz.func47 rfl YS.d (g := fun k => (YS.c k).f) YS.o YS.i trivial (fun k => ⟨⟨Z1.ok k, trivial⟩, ⟨Yq.ok k, trivial⟩, trivial⟩) YS.t (fun k => trivial) k
theorem Z2.ok (k : Nat) : Ok Tryz.prog U 93 (Z2.c k) := fn_ok PL mx Tryz.func93 rfl Z2.d (g := fun k => (Z2.c k).f) Z2.o Z2.i ⟨fun _ => rfl, trivial⟩ (fun k => trivial) Z2.t (fun k => ⟨Z2.s0 k, trivial⟩) k
theorem YT.ok (k : Nat) : Ok Tryz.prog U 48 (YT.c k) := fn_ok PL mx Tryz.func48 rfl YT.d (g := fun k => (YT.c k).f) YT.o YT.i trivial (fun k => ⟨⟨Z2.ok k, trivial⟩, trivial⟩) YT.t (fun k => trivial) k
theorem Z3.ok (k : Nat) : Ok Tryz.prog U 49 (Z3.c k) := fn_ok PL mx Tryz.func49 rfl Z3.d (g := fun k => (Z3.c k).f) Z3.o Z3.i ⟨fun _ => rfl, trivial⟩ (fun k => trivial) Z3.t (fun k => ⟨Z3.s0 k, trivial⟩) k
theorem Z4.ok (k : Nat) : Ok Tryz.prog U 50 (Z4.c k) := fn_ok PL mx Tryz.func50 rfl Z4.d (g := fun k => (Z4.c k).f) Z4.o Z4.i ⟨fun _ => rfl, trivial⟩ (fun k => trivial) Z4.t (fun k => ⟨Z4.s0 k, trivial⟩) k
theorem ZW.ok (k : Nat) : Ok Tryz.prog U 13 (ZW.c k) := fn_ok PL mx Tryz.func13 rfl ZW.d (g := fun k => (ZW.c k).f) ZW.o ZW.i trivial (fun k => ⟨⟨YS.ok k, trivial⟩, ⟨YT.ok k, trivial⟩, ⟨Z3.ok k, trivial⟩, ⟨Z4.ok k, trivial⟩, trivial⟩) ZW.t (fun k => trivial) k
theorem Yd.ok (k : Nat) : Ok Tryz.prog U 69 (Yd.c k) := fn_ok PL mx Tryz.func69 rfl Yd.d (g := fun k => (Yd.c k).f) Yd.o Yd.i ⟨fun _ => rfl, trivial⟩ (fun k => ⟨⟨Xw.ok k, trivial⟩, ⟨Zf.ok k, trivial⟩, trivial⟩) Yd.t (fun k => ⟨Yd.s0 k, trivial⟩) k
theorem X4.ok (k : Nat) : Ok Tryz.prog U 27 (X4.c k) := fn_ok PL mx Tryz.func27 rfl X4.d (g := fun k => (X4.c k).f) X4.o X4.i trivial (fun k => ⟨⟨Zc.ok k, trivial⟩, ⟨Yf.ok k, trivial⟩, ⟨Yd.ok k, trivial⟩, ⟨YY.ok k, trivial⟩, trivial⟩) X4.t (fun k => trivial) k
theorem Za.ok (k : Nat) : Ok Tryz.prog U 116 (Za.c k) := fn_ok PL mx Tryz.func116 rfl Za.d (g := fun k => (Za.c k).f) Za.o Za.i ⟨fun _ => rfl, trivial⟩ (fun k => trivial) Za.t (fun k => ⟨Za.s0 k, trivial⟩) k
theorem Y8.ok (k : Nat) : Ok Tryz.prog U 71 (Y8.c k) := fn_ok PL mx Tryz.func71 rfl Y8.d (g := fun k => (Y8.c k).f) Y8.o Y8.i trivial (fun k => ⟨⟨Za.ok k, trivial⟩, trivial⟩) Y8.t (fun k => trivial) k
theorem YI.ok (k : Nat) : Ok Tryz.prog U 28 (YI.c k) := fn_ok PL mx Tryz.func28 rfl YI.d (g := fun k => (YI.c k).f) YI.o YI.i ⟨fun _ => rfl, trivial⟩ (fun k => ⟨⟨X2.ok k, trivial⟩, ⟨Y8.ok k, trivial⟩, trivial⟩) YI.t (fun k => ⟨YI.s0 k, trivial⟩) k
theorem Z0.ok (k : Nat) : Ok Tryz.prog U 29 (Z0.c k) := fn_ok PL mx Tryz.func29 rfl Z0.d (g := fun k => (Z0.c k).f) Z0.o Z0.i ⟨fun _ => rfl, trivial⟩ (fun k => ⟨⟨Zc.ok k, trivial⟩, ⟨Yf.ok k, trivial⟩, trivial⟩) Z0.t (fun k => ⟨Z0.s0 k, trivial⟩) k
theorem ZY.ok (k : Nat) : Ok Tryz.prog U 32 (ZY.c k) := fn_ok PL mx Tryz.func32 rfl ZY.d (g := fun k => (ZY.c k).f) ZY.o ZY.i ⟨fun _ => rfl, trivial⟩ (fun k => ⟨⟨Yi.ok k, trivial⟩, ⟨Zc.ok k, trivial⟩, ⟨XA.ok k, trivial⟩, ⟨Yx.ok k, trivial⟩, trivial⟩) ZY.t (fun k => ⟨ZY.s0 k, trivial⟩) k
theorem cl31.ok (k : Nat) : Ok Tryz.prog U 31 (cl31.c k) := fn_ok PL mx Tryz.func31 rfl cl31.d (g := fun k => (cl31.c k).f) cl31.o cl31.i trivial (fun k => ⟨⟨ZY.ok k, trivial⟩, trivial⟩) cl31.t (fun k => trivial) k
theorem Zs.ok (k : Nat) : Ok Tryz.prog U 65 (Zs.c k) := fn_ok PL mx Tryz.func65 rfl Zs.d (g := fun k => (Zs.c k).f) Zs.o Zs.i ⟨fun _ => rfl, trivial⟩ (fun k => ⟨⟨cl31.ok k, trivial⟩, trivial⟩) Zs.t (fun k => ⟨Zs.s0 k, trivial⟩) k
theorem ZM.ok (k : Nat) : Ok Tryz.prog U 30 (ZM.c k) := fn_ok PL mx Tryz.func30 rfl ZM.d (g := fun k => (ZM.c k).f) ZM.o ZM.i trivial (fun k => ⟨⟨Zs.ok k, trivial⟩, trivial⟩) ZM.t (fun k => trivial) k
theorem Xt.ok (k : Nat) : Ok Tryz.prog U 7 (Xt.c k) := fn_ok PL mx Tryz.func7 rfl Xt.d (g := fun k => (Xt.c k).f) Xt.o Xt.i trivial (fun k => ⟨⟨XJ.ok k, trivial⟩, ⟨ZW.ok k, trivial⟩, ⟨Yf.ok k, trivial⟩, ⟨X4.ok k, trivial⟩, ⟨YI.ok k, trivial⟩, ⟨Z0.ok k, trivial⟩, ⟨ZM.ok k, trivial⟩, trivial⟩) Xt.t (fun k => trivial) k
theorem Yg.ok (k : Nat) : Ok Tryz.prog U 117 (Yg.c k) := fn_ok PL mx Tryz.func117 rfl Yg.d (g := fun k => (Yg.c k).f) Yg.o Yg.i ⟨fun _ => rfl, trivial⟩ (fun k => trivial) Yg.t (fun k => ⟨Yg.s0 k, trivial⟩) k
theorem ZA.ring (k : Nat) : Ok Tryz.prog U 151 (ZA.c k) := ring_ind (Q := fun k => Ok Tryz.prog U 151 (ZA.c k)) (zero_ok (ent_of Tryz.func151 rfl (by kernel_rfl)) (fun _ => rfl)) (fun k ih => ring_ok PL mx Tryz.func151 rfl ZA.d (g := fun k => (ZA.c k).f) ZA.o ZA.i ⟨fun _ => rfl, trivial⟩ ZA.t (fun k => ⟨ZA.s0 k, trivial⟩) k (fun j hj => ⟨⟨(ih j hj), trivial⟩, trivial⟩)) k
theorem ZA.ok (k : Nat) : Ok Tryz.prog U 151 (ZA.c k) := (ZA.ring k)
theorem Zy.ok (k : Nat) : Ok Tryz.prog U 118 (Zy.c k) := fn_ok PL mx Tryz.func118 rfl Zy.d (g := fun k => (Zy.c k).f) Zy.o Zy.i ⟨fun _ => rfl, trivial⟩ (fun k => ⟨⟨ZA.ok k, trivial⟩, trivial⟩) Zy.t (fun k => ⟨Zy.s0 k, trivial⟩) k
theorem YU.ok (k : Nat) : Ok Tryz.prog U 73 (YU.c k) := fn_ok PL mx Tryz.func73 rfl YU.d (g := fun k => (YU.c k).f) YU.o YU.i trivial (fun k => ⟨⟨Yg.ok k, trivial⟩, ⟨Zy.ok k, trivial⟩, trivial⟩) YU.t (fun k => trivial) k
theorem ZI.ok (k : Nat) : Ok Tryz.prog U 74 (ZI.c k) := fn_ok PL mx Tryz.func74 rfl ZI.d (g := fun k => (ZI.c k).f) ZI.o ZI.i ⟨fun _ => rfl, trivial⟩ (fun k => trivial) ZI.t (fun k => ⟨ZI.s0 k, trivial⟩) k
theorem ZT.ok (k : Nat) : Ok Tryz.prog U 75 (ZT.c k) := fn_ok PL mx Tryz.func75 rfl ZT.d (g := fun k => (ZT.c k).f) ZT.o ZT.i ⟨fun _ => rfl, trivial⟩ (fun k => trivial) ZT.t (fun k => ⟨ZT.s0 k, trivial⟩) k
theorem Yh.ok (k : Nat) : Ok Tryz.prog U 76 (Yh.c k) := fn_ok PL mx Tryz.func76 rfl Yh.d (g := fun k => (Yh.c k).f) Yh.o Yh.i ⟨fun _ => rfl, trivial⟩ (fun k => trivial) Yh.t (fun k => ⟨Yh.s0 k, trivial⟩) k
theorem YV.ok (k : Nat) : Ok Tryz.prog U 33 (YV.c k) := fn_ok PL mx Tryz.func33 rfl YV.d (g := fun k => (YV.c k).f) YV.o YV.i trivial (fun k => ⟨⟨YU.ok k, trivial⟩, ⟨ZI.ok k, trivial⟩, ⟨ZT.ok k, trivial⟩, ⟨Yh.ok k, trivial⟩, trivial⟩) YV.t (fun k => trivial) k
theorem YM.ok (k : Nat) : Ok Tryz.prog U 35 (YM.c k) := fn_ok PL mx Tryz.func35 rfl YM.d (g := fun k => (YM.c k).f) YM.o YM.i ⟨fun _ => rfl, trivial⟩ (fun k => ⟨⟨Yn.ok k, trivial⟩, ⟨Y5.ok k, trivial⟩, ⟨ZV.ok k, trivial⟩, trivial⟩) YM.t (fun k => ⟨YM.s0 k, trivial⟩) k
theorem Yb.ok (k : Nat) : Ok Tryz.prog U 80 (Yb.c k) := fn_ok PL mx Tryz.func80 rfl Yb.d (g := fun k => (Yb.c k).f) Yb.o Yb.i ⟨fun _ => rfl, trivial⟩ (fun k => ⟨⟨Zw.ok k, trivial⟩, ⟨Ze.ok k, trivial⟩, ⟨Yo.ok k, trivial⟩, trivial⟩) Yb.t (fun k => ⟨Yb.s0 k, trivial⟩) k
theorem XN.ok (k : Nat) : Ok Tryz.prog U 37 (XN.c k) := fn_ok PL mx Tryz.func37 rfl XN.d (g := fun k => (XN.c k).f) XN.o XN.i trivial (fun k => ⟨⟨Zw.ok k, trivial⟩, ⟨Zj.ok k, trivial⟩, ⟨Yb.ok k, trivial⟩, ⟨ZX.ok k, trivial⟩, trivial⟩) XN.t (fun k => trivial) k
theorem Ys.ok (k : Nat) : Ok Tryz.prog U 8 (Ys.c k) := fn_ok PL mx Tryz.func8 rfl Ys.d (g := fun k => (Ys.c k).f) Ys.o Ys.i ⟨fun _ => rfl, trivial⟩ (fun k => ⟨⟨Xc.ok k, trivial⟩, ⟨YV.ok k, trivial⟩, ⟨YM.ok k, trivial⟩, ⟨Zj.ok k, trivial⟩, ⟨XN.ok k, trivial⟩, ⟨Z5.ok k, trivial⟩, ⟨Zp.ok k, trivial⟩, trivial⟩) Ys.t (fun k => ⟨Ys.s0 k, trivial⟩) k
theorem laws_FnAsked.ok (k : Nat) : Ok Tryz.prog U 3 (laws_FnAsked.c k) := fn_ok PL mx Tryz.func3 rfl laws_FnAsked.d (g := fun k => (laws_FnAsked.c k).f) laws_FnAsked.o laws_FnAsked.i trivial (fun k => ⟨⟨Wv.ok k, trivial⟩, ⟨YB.ok k, trivial⟩, ⟨Xu.ok k, trivial⟩, ⟨Xt.ok k, trivial⟩, ⟨Yi.ok k, trivial⟩, ⟨Y1.ok k, trivial⟩, ⟨Y2.ok k, trivial⟩, ⟨Y3.ok k, trivial⟩, ⟨ZW.ok k, trivial⟩, ⟨Yx.ok k, trivial⟩, ⟨Ys.ok k, trivial⟩, trivial⟩) laws_FnAsked.t (fun k => trivial) k
theorem rc_row {w : World} {A : Option Addr} {c : Nat} {xs : List Int} (h : Kd.C (Kd.int .u8) w A xs.length xs) (hc : xs.length ≤ c) : RC U (fun b => b < w.heap.size) w (.tree 5 (xs : List (U.D 5))) (.slice A xs.length c) := by
  cases xs with
  | nil => exact .tree0 _ _ _
  | cons y t =>
    obtain ⟨ad, hA, h0⟩ := Kd.at_int h 0 (by omega) (by simp only [List.length_cons]; omega)
    subst hA
    refine @RC.tree U (fun b => b < w.heap.size) w 5 (y :: t : List Int) ad c (fun i _ => .int .u8 (rd (y :: t) (i : Int))) hc ?_ (fun i x j c hx hj => ?_) (fun i x j c hx hj => ?_)
    · have := World.block_lt_of_cell? w _ h0
      rwa [Go.Proofs.YtmodglnbidedhaaGreatV.add_block] at this
    · have hx' : (y :: t : List Int)[i]? = some x := hx
      have hi := (List.getElem?_eq_some_iff.1 hx').1
      have hj' : [(VV.int .u8 x : VV U.D)][j]? = some c := hj
      obtain rfl : j = 0 := by
        cases j with
        | zero => rfl
        | succ j => simp at hj'
      obtain ⟨ad', hA', h1⟩ := Kd.at_int h (i : Int) (by omega) (by omega)
      cases hA'
      have e : i * U.sz 5 + 0 = (i : Int).toNat := by
        show i * 1 + 0 = _
        omega
      rw [e]; exact h1
    · have hx' : (y :: t : List Int)[i]? = some x := hx
      have hj' : [(VV.int .u8 x : VV U.D)][j]? = some c := hj
      cases j with
      | succ j => simp at hj'
      | zero =>
        simp only [List.getElem?_cons_zero, Option.some.injEq] at hj'
        subst hj'
        have e : rd (y :: t) (i : Int) = x := by
          unfold rd
          rw [Int.toNat_natCast, List.getD_eq_getElem?_getD, hx']; rfl
        show RC U _ w (VV.int .u8 x) (.int .u8 (rd (y :: t) (i : Int)))
        rw [e]; exact .int _ _
theorem laws_FnAsked.calls (k : Nat) (A0 : Option Addr) (c0 : Nat) (l0 : List Int) (r : Bool) (w : World) (hr0 : Kd.C (Kd.int .u8) w A0 l0.length l0) (hc0 : l0.length ≤ c0) (h : laws_FnAsked.f k l0 = some r) : Calls Tryz.prog 3 #[.slice A0 l0.length c0] w fun e w' => e = .returned (.bool r) ∧ Below w.heap.size w w' := law_bytes (e := 5) (laws_FnAsked.ok k).2 h (rc_row hr0 hc0)
end Go.Proofs.YtmodglnbidedhaaGreat.QFnAsked
