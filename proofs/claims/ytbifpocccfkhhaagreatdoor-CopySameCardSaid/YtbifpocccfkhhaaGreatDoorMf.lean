/- Part of the proof. -/
import Derived.Test.YtbifpocccfkhhaaGreatDoorMe
import Derived.KernelRfl
set_option linter.all false
noncomputable section
namespace Go.Proofs.YtbifpocccfkhhaaGreatDoor
open Go Go.Proofs.Tryz
set_option maxRecDepth 20000
abbrev okF(f:Func)(c:F'):Prop:=qdH prog f=some c
theorem okI{f:Func}{c:F'}(h:qdH prog f=some c):okF f c:=h
noncomputable def cmp(f:Func):F':=(qdH prog f).getD ⟨0,[],.skip⟩
def c18:F':=cmp Tryz.f18
theorem ok18:okF Tryz.f18 c18:=okI (by kernel_rfl)
def c19:F':=cmp Tryz.f19
theorem ok19:okF Tryz.f19 c19:=okI (by kernel_rfl)
def c23:F':=⟨8,[.t 4],
 .seq (.reg [.o 2 (.box (.t 0)),
 .o 3 (.box (.t 1)),
 .o 4 (.mv (.c (.bool false)))])
 (.seq (.reg [.j 5 8 2,
 .j 6 8 3,
 .o 7 (.call (.f 68) [(.t 5),(.t 6)]),
 .m 4 7])
 (.ret))⟩
theorem ok23:okF Tryz.f23 c23:=okI (by kernel_rfl)
def c24:F':=⟨28,[.t 4,.t 5],
 .seq (.reg [.o 2 (.box (.t 0)),
 .o 3 (.box (.t 1)),
 .o 4 (.mv (.c (.bool false))),
 .o 5 (.mv (.c (.int .i64 0)))])
 (.seq (.seq (.reg [.j 9 8 2,
 .j 10 8 3,
 .o 11 (.build (.agg [(.sl true []),(.int .i64 0),(.str ⟨⟨[]⟩⟩),(.sl true []),(.sl true []),(.sl true []),(.sl true []),(.sl true []),(.sl true []),(.int .i64 0),(.str ⟨⟨[]⟩⟩),(.sl true []),(.sl true []),(.sl true []),(.sl true []),(.sl true [])]) [(0,0,8,(.t 9)),(1,8,8,(.t 10))]),
 .o 12 (.mv (.c (.int .i64 0)))])
 (.block 0 (.loop (.seq (.reg [.u 13 .lss 12 2])
 (.seq (.cond (.t 13)
 (.skip)
 (.exit 0))
 (.seq (.block 1 (.seq (.reg [.o 14 (.ex (.ixa 2 8 (some 8) (.t 11) (.t 12))),
 .o 7 (.new zS),
 .s 8 7 14])
 (.seq (.reg [.j 15 8 7,
 .o 16 (.call (.f 56) [(.t 15)]),
 .m 8 16])
 (.seq (.reg [.m 17 8,
 .u 18 .neq 17 0])
 (.cond (.t 18)
 (.seq (.reg [.m 19 8,
 .o 4 (.mv (.c (.bool false))),
 .m 5 19])
 (.ret))
 (.skip))))))
 (.reg [.u 20 .add 12 1,
 .m 12 20])))))))
 (.seq (.draw [⟨.j 21 8 2,false,none,false,[],0,0⟩,
 ⟨.o 22 (.call (.f 70) [(.t 21)]),true,none,false,[0],0,0⟩,
 ⟨.o 23 (.bsl 8 [(.t 22)]),false,none,false,[1,0],1,2⟩,
 ⟨.j 24 8 3,false,none,true,[],0,1⟩,
 ⟨.o 25 (.call (.f 70) [(.t 24)]),true,none,false,[3,1,0],1,1⟩,
 ⟨.o 26 (.bsl 8 [(.t 25)]),false,none,false,[4,3,1,0],2,2⟩,
 ⟨.o 27 (.call (.f 69) [(.t 23),(.t 26)]),true,none,false,[2,5,4,3,1,0],2,2⟩,
 ⟨.m 4 27,false,none,false,[6,2,5,4,3,1,0],3,3⟩,
 ⟨.o 5 (.mv (.c (.int .i64 0))),false,none,false,[7,6,2,5,4,3,1,0],3,3⟩] [])
 (.ret)))⟩
theorem ok24:okF Tryz.f24 c24:=okI (by kernel_rfl)
def c27:F':=cmp Tryz.f27
theorem ok27:okF Tryz.f27 c27:=okI (by kernel_rfl)
def c29:F':=⟨19,[.t 2,.t 3],
 .seq (.reg [.o 1 (.box (.t 0)),
 .o 2 (.mv (.c (.sl true []))),
 .o 3 (.mv (.c (.int .i64 0)))])
 (.seq (.seq (.reg [.j 7 8 1,
 .o 8 (.call (.f 56) [(.t 7)]),
 .m 4 8])
 (.seq (.reg [.m 9 4,
 .u 10 .neq 9 0])
 (.cond (.t 10)
 (.seq (.reg [.m 11 4,
 .o 2 (.mv (.c (.sl true []))),
 .m 3 11])
 (.ret))
 (.skip))))
 (.seq (.reg [.j 13 8 1,
 .o 14 (.call (.f 58) [(.t 13)]),
 .m 12 14,
 .e 15 0 12,
 .e 16 1 12,
 .m 5 15,
 .m 6 16])
 (.seq (.reg [.m 17 5,
 .o 18 (.call (.f 86) [(.t 17)]),
 .m 2 18,
 .o 3 (.mv (.c (.int .i64 0)))])
 (.ret))))⟩
theorem ok29:okF Tryz.f29 c29:=okI (by kernel_rfl)
def c30:F':=⟨26,[.t 4],
 .seq (.reg [.o 4 (.mv (.c (.bool false)))])
 (.seq (.seq (.reg [.m 6 0,
 .o 7 (.len false (.t 6)),
 .m 8 1,
 .o 9 (.len false (.t 8)),
 .b 10 .neq 7 9])
 (.cond (.t 10)
 (.seq (.reg [.o 4 (.mv (.c (.bool false)))])
 (.ret))
 (.skip)))
 (.seq (.seq (.reg [.o 5 (.mv (.c (.int .i64 0)))])
 (.block 0 (.loop (.seq (.seq (.reg [.m 11 5,
 .m 12 0,
 .o 13 (.len false (.t 12)),
 .b 14 .lss 11 13])
 (.cond (.t 14)
 (.skip)
 (.exit 0)))
 (.seq (.block 1 (.seq (.draw [⟨.m 17 0,false,none,false,[],0,0⟩,
 ⟨.m 18 5,false,none,false,[],0,0⟩,
 ⟨.i 19 1 17 18,false,none,false,[0,1],0,0⟩,
 ⟨.l 20 19,false,none,false,[2,0,1],0,0⟩,
 ⟨.m 21 1,false,none,false,[],0,0⟩,
 ⟨.m 22 5,false,none,false,[],0,0⟩,
 ⟨.i 23 1 21 22,false,none,false,[4,5],0,0⟩,
 ⟨.l 24 23,false,none,false,[6,4,5],0,0⟩,
 ⟨.b 25 .neq 20 24,false,none,false,[3,7,2,0,1,6,4,5],0,0⟩] [])
 (.cond (.t 25)
 (.seq (.reg [.o 4 (.mv (.c (.bool false)))])
 (.ret))
 (.skip))))
 (.reg [.m 15 5,
 .u 16 .add 15 1,
 .m 5 16]))))))
 (.seq (.reg [.o 4 (.mv (.c (.bool true)))])
 (.ret))))⟩
theorem ok30:okF Tryz.f30 c30:=okI (by kernel_rfl)
def c31:F':=cmp Tryz.f31
theorem ok31:okF Tryz.f31 c31:=okI (by kernel_rfl)
def c32:F':=cmp Tryz.f32
theorem ok32:okF Tryz.f32 c32:=okI (by kernel_rfl)
def c33:F':=cmp Tryz.f33
theorem ok33:okF Tryz.f33 c33:=okI (by kernel_rfl)
def c53:F':=cmp Tryz.f53
theorem ok53:okF Tryz.f53 c53:=okI (by kernel_rfl)
def c54:F':=cmp Tryz.f54
theorem ok54:okF Tryz.f54 c54:=okI (by kernel_rfl)
def c55:F':=cmp Tryz.f55
theorem ok55:okF Tryz.f55 c55:=okI (by kernel_rfl)
def c56:F':=⟨6,[.t 2],
 .seq (.reg [.o 1 (.box (.t 0)),
 .o 2 (.mv (.c (.int .i64 0)))])
 (.seq (.reg [.j 3 8 1,
 .o 4 (.call (.f 101) [(.t 3)]),
 .o 5 (.call (.f 100) [(.t 4)]),
 .m 2 5])
 (.ret))⟩
theorem ok56:okF Tryz.f56 c56:=okI (by kernel_rfl)
def c57:F':=⟨24,[.t 2],
 .seq (.reg [.o 2 (.mv (.c (.bool false)))])
 (.seq (.seq (.reg [.m 3 0,
 .o 4 (.bin .eql (.t 3) (.c (.str ⟨⟨[]⟩⟩))),
 .m 5 4,
 .v 6 5 false (.mv (.t 0)),
 .v 7 5 false (.len true (.t 6)),
 .v 8 5 false (.bin .gtr (.t 7) (.c (.int .i64 16))),
 .z 9 5 8,
 .m 10 9,
 .v 11 10 false (.mv (.t 0)),
 .v 12 10 false (.idx (.t 11) (.c (.int .i64 0))),
 .v 13 10 false (.call (.f 102) [(.t 12)]),
 .v 14 10 false (.un .not (.t 13)),
 .z 15 10 14,
 .m 16 15,
 .v 17 16 false (.mv (.t 0)),
 .v 18 16 false (.call (.f 103) [(.t 17)]),
 .z 19 16 18])
 (.cond (.t 19)
 (.seq (.reg [.o 2 (.mv (.c (.bool false)))])
 (.ret))
 (.skip)))
 (.seq (.reg [.m 20 0,
 .o 21 (.ex (.ctb (.t 20))),
 .o 22 (.call (.f 104) [(.t 21),(.f 105)]),
 .o 23 (.un .not (.t 22)),
 .m 2 23])
 (.ret)))⟩
theorem ok57:okF Tryz.f57 c57:=okI (by kernel_rfl)
def c58:F':=⟨20,[.t 2,.t 3],
 .seq (.reg [.o 1 (.box (.t 0)),
 .o 2 (.mv (.c .nilmap)),
 .o 3 (.mv (.c (.sl true [])))])
 (.seq (.reg [.o 8 (.ex (.mkm)),
 .o 4 (.new .nilmap),
 .s 1 4 8])
 (.seq (.reg [.o 5 (.new (.sl true []))])
 (.seq (.reg [.o 9 (.mkf 107 [] [(.t 4)]),
 .o 6 (.new .nilfn),
 .s 1 6 9])
 (.seq (.reg [.o 10 (.mkf 108 [] [(.t 5)]),
 .o 11 (.mkf 109 [] [(.t 6)]),
 .o 12 (.mkf 110 [] [(.t 6)]),
 .o 13 (.build (.agg [(.int .i64 0),.nilfn,.nilfn,.nilfn]) [(1,1,1,(.t 10)),(2,2,1,(.t 11)),(3,3,1,(.t 12))]),
 .o 14 (.box (.t 13)),
 .m 7 14])
 (.seq (.reg [.m 15 7,
 .j 16 8 1,
 .o 17 (.call (.f 62) [(.t 15),(.t 16)])])
 (.seq (.draw [⟨.l 18 4,false,none,false,[],0,0⟩,
 ⟨.l 19 5,false,none,false,[],0,0⟩,
 ⟨.m 2 18,false,none,false,[0],0,0⟩,
 ⟨.m 3 19,false,none,false,[1,2,0],0,0⟩] [])
 (.ret)))))))⟩
theorem ok58:okF Tryz.f58 c58:=okI (by kernel_rfl)
def c59:F':=cmp Tryz.f59
theorem ok59:okF Tryz.f59 c59:=okI (by kernel_rfl)
def c60:F':=⟨32,[.t 4],
 .seq (.reg [.o 4 (.mv (.c .nilp))])
 (.scope (.seq (.skip)
 (.seq (.block 0 (.loop (.seq (.seq (.reg [.m 7 0,
 .o 8 (.eq .ptr true (.t 7) (.c .nilp))])
 (.cond (.t 8)
 (.skip)
 (.exit 0)))
 (.block 1 (.seq (.seq (.reg [.m 10 0,
 .h 11 10,
 .f 12 1 11,
 .l 13 12,
 .m 14 1,
 .o 15 (.ex (.lkp .str .nilp true (.t 13) (.t 14))),
 .m 9 15,
 .e 16 0 9,
 .e 17 1 9,
 .m 5 16,
 .m 6 17])
 (.seq (.reg [.m 18 6])
 (.cond (.t 18)
 (.seq (.reg [.m 19 5,
 .m 4 19])
 (.ret))
 (.skip))))
 (.seq (.seq (.reg [.m 20 0,
 .h 21 20,
 .f 22 0 21,
 .l 23 22,
 .o 24 (.eq .ptr false (.t 23) (.c .nilp))])
 (.cond (.t 24)
 (.exit 0)
 (.skip)))
 (.reg [.m 25 0,
 .h 26 25,
 .f 27 0 26,
 .l 28 27,
 .h 29 28,
 .f 30 0 29,
 .l 31 30,
 .m 0 31])))))))
 (.seq (.reg [.o 4 (.mv (.c .nilp))])
 (.ret)))))⟩
theorem ok60:okF Tryz.f60 c60:=okI (by kernel_rfl)
def c61:F':=cmp Tryz.f61
theorem ok61:okF Tryz.f61 c61:=okI (by kernel_rfl)
def c62:F':=⟨11,[.cell 4 (some 8)],
 .seq (.reg [.o 3 (.box (.t 1)),
 .o 4 (.new zS)])
 (.seq (.reg [.m 5 0,
 .j 6 8 3,
 .o 7 (.bsl 8 [(.t 6)]),
 .o 8 (.call (.f 111) [(.t 5),(.t 7),(.c .nilp)]),
 .o 9 (.ia 8 (.t 8) (.c (.int .i64 0))),
 .j 10 8 9,
 .s 8 4 10])
 (.ret))⟩
theorem ok62:okF Tryz.f62 c62:=okI (by kernel_rfl)
def c68:F':=⟨10,[.t 4],
 .seq (.reg [.o 2 (.box (.t 0)),
 .o 3 (.box (.t 1)),
 .o 4 (.mv (.c (.bool false)))])
 (.seq (.draw [⟨.j 5 8 2,false,none,false,[],0,0⟩,
 ⟨.o 6 (.call (.f 113) [(.t 5)]),true,none,false,[0],0,0⟩,
 ⟨.j 7 8 3,false,none,true,[],0,1⟩,
 ⟨.o 8 (.call (.f 113) [(.t 7)]),true,none,false,[2,1,0],1,1⟩,
 ⟨.o 9 (.call (.f 118) [(.t 6),(.t 8)]),true,none,false,[3,2,1,0],2,2⟩,
 ⟨.m 4 9,false,none,false,[4,3,2,1,0],3,3⟩] [])
 (.ret))⟩
theorem ok68:okF Tryz.f68 c68:=okI (by kernel_rfl)
def c69:F':=⟨8,[.t 4],
 .seq (.reg [.o 4 (.mv (.c (.bool false)))])
 (.seq (.reg [.m 5 0,
 .m 6 1,
 .o 7 (.call (.f 119) [(.t 5),(.t 6),(.f 120)]),
 .m 4 7])
 (.ret))⟩
theorem ok69:okF Tryz.f69 c69:=okI (by kernel_rfl)
def c70:F':=⟨9,[.cell 2 (some 8)],
 .seq (.reg [.o 1 (.box (.t 0)),
 .o 2 (.new zS)])
 (.seq (.reg [.o 4 (.build (.agg [(.int .i64 0),.nilfn,.nilfn,.nilfn]) [(1,1,1,(.f 128))]),
 .o 5 (.box (.t 4)),
 .m 3 5])
 (.seq (.reg [.m 6 3,
 .j 7 8 1,
 .o 8 (.call (.f 62) [(.t 6),(.t 7)]),
 .s 8 2 8])
 (.ret)))⟩
theorem ok70:okF Tryz.f70 c70:=okI (by kernel_rfl)
def c73:F':=cmp Tryz.f73
theorem ok73:okF Tryz.f73 c73:=okI (by kernel_rfl)
def c74:F':=cmp Tryz.f74
theorem ok74:okF Tryz.f74 c74:=okI (by kernel_rfl)
def c75:F':=cmp Tryz.f75
theorem ok75:okF Tryz.f75 c75:=okI (by kernel_rfl)
def c76:F':=cmp Tryz.f76
theorem ok76:okF Tryz.f76 c76:=okI (by kernel_rfl)
def c77:F':=⟨32,[.t 4],
 .seq (.reg [.o 4 (.mv (.c (.str ⟨⟨[]⟩⟩)))])
 (.seq (.seq (.reg [.m 8 1,
 .m 9 0,
 .o 10 (.call (.t 8) [(.t 9)]),
 .o 11 (.un .not (.t 10))])
 (.cond (.t 11)
 (.seq (.reg [.m 12 0,
 .m 4 12])
 (.ret))
 (.skip)))
 (.seq (.reg [.o 5 (.mv (.c (.int .i64 1)))])
 (.block 0 (.loop (.seq (.block 1 (.seq (.reg [.m 15 5,
 .o 16 (.call (.f 129) [(.t 15)]),
 .m 6 16])
 (.seq (.reg [.m 17 0,
 .m 18 0,
 .o 19 (.len true (.t 18)),
 .m 20 6,
 .o 21 (.len true (.t 20)),
 .o 22 (.bin .sub (.c (.int .i64 16)) (.t 21)),
 .o 23 (.ex (.mm false (.t 19) (.t 22))),
 .o 24 (.slc true 0 (.t 17) none (some (.t 23))),
 .m 25 6,
 .b 26 .add 24 25,
 .m 7 26])
 (.seq (.reg [.m 27 1,
 .m 28 7,
 .o 29 (.call (.t 27) [(.t 28)]),
 .o 30 (.un .not (.t 29))])
 (.cond (.t 30)
 (.seq (.reg [.m 31 7,
 .m 4 31])
 (.ret))
 (.skip))))))
 (.reg [.m 13 5,
 .u 14 .add 13 1,
 .m 5 14]))))))⟩
theorem ok77:okF Tryz.f77 c77:=okI (by kernel_rfl)
def c78:F':=cmp Tryz.f78
theorem ok78:okF Tryz.f78 c78:=okI (by kernel_rfl)
def c79:F':=⟨15,[],
 .seq (.reg [.m 6 1,
 .o 7 (.len false (.t 6)),
 .o 8 (.mv (.c (.int .i64 0)))])
 (.block 0 (.loop (.seq (.reg [.b 9 .lss 8 7])
 (.seq (.cond (.t 9)
 (.skip)
 (.exit 0))
 (.seq (.block 1 (.seq (.reg [.i 10 1 6 8,
 .l 11 10,
 .m 5 11])
 (.reg [.m 12 0,
 .m 13 5,
 .n (.ex (.mup .str (.t 12) (.t 13) (.c (.bool true))))])))
 (.reg [.u 14 .add 8 1,
 .m 8 14]))))))⟩
theorem ok79:okF Tryz.f79 c79:=okI (by kernel_rfl)
def c80:F':=cmp Tryz.f80
theorem ok80:okF Tryz.f80 c80:=okI (by kernel_rfl)
def c81:F':=cmp Tryz.f81
theorem ok81:okF Tryz.f81 c81:=okI (by kernel_rfl)
def c82:F':=cmp Tryz.f82
theorem ok82:okF Tryz.f82 c82:=okI (by kernel_rfl)
def c86:F':=cmp Tryz.f86
theorem ok86:okF Tryz.f86 c86:=okI (by kernel_rfl)
def c87:F':=cmp Tryz.f87
theorem ok87:okF Tryz.f87 c87:=okI (by kernel_rfl)
def c90:F':=⟨6,[.t 2],
 .seq (.reg [.o 1 (.box (.t 0)),
 .o 2 (.mv (.c (.int .i64 0)))])
 (.seq (.reg [.j 3 7 1,
 .o 4 (.call (.f 142) [(.t 3)]),
 .o 5 (.call (.f 100) [(.t 4)]),
 .m 2 5])
 (.ret))⟩
theorem ok90:okF Tryz.f90 c90:=okI (by kernel_rfl)
def c95:F':=cmp Tryz.f95
theorem ok95:okF Tryz.f95 c95:=okI (by kernel_rfl)
def c96:F':=cmp Tryz.f96
theorem ok96:okF Tryz.f96 c96:=okI (by kernel_rfl)
def c97:F':=⟨47,[.cell 8 (some 7)],
 .seq (.reg [.o 5 (.box (.t 1)),
 .o 8 (.new zX)])
 (.seq (.reg [.m 10 0,
 .f 11 6 5,
 .l 12 11,
 .m 13 2,
 .o 14 (.call (.f 134) [(.t 10),(.t 12),(.t 13),(.c (.bool false))]),
 .f 15 6 5,
 .s 1 15 14])
 (.seq (.seq (.reg [.f 16 0 5,
 .l 17 16])
 (.block 0 (.seq (.seq (.reg [.u 19 .eql 17 6,
 .m 18 19])
 (.cond (.t 18)
 (.skip)
 (.seq (.reg [.u 20 .eql 17 7,
 .m 18 20])
 (.cond (.t 18)
 (.skip)
 (.reg [.u 21 .eql 17 8,
 .m 18 21])))))
 (.cond (.t 18)
 (.seq (.seq (.reg [.m 22 0,
 .h 23 22,
 .f 24 2 23,
 .l 25 24,
 .o 26 (.eq .func true (.t 25) (.c .nilfn))])
 (.cond (.t 26)
 (.seq (.draw [⟨.m 27 0,false,none,false,[],0,0⟩,
 ⟨.h 28 27,false,none,false,[0],0,0⟩,
 ⟨.f 29 2 28,false,none,false,[1,0],0,0⟩,
 ⟨.l 30 29,false,none,false,[2,1,0],0,0⟩,
 ⟨.j 31 7 5,false,none,false,[],0,0⟩,
 ⟨.m 32 2,false,none,false,[],0,0⟩,
 ⟨.m 33 3,false,none,false,[],0,0⟩,
 ⟨.o 34 (.call (.t 30) [(.t 31),(.t 32),(.t 33)]),true,none,false,[3,4,5,6,2,1,0],0,0⟩,
 ⟨.s 7 8 34,true,none,false,[7,3,4,5,6,2,1,0],1,1⟩] [])
 (.ret))
 (.skip)))
 (.seq (.reg [.m 35 2,
 .f 36 5 5,
 .l 37 36,
 .o 38 (.call (.f 60) [(.t 35),(.t 37)]),
 .m 9 38])
 (.seq (.reg [.m 39 9,
 .o 40 (.eq .ptr true (.t 39) (.c .nilp))])
 (.cond (.t 40)
 (.reg [.m 41 9,
 .h 42 41,
 .f 43 2 42,
 .l 44 43,
 .f 45 5 5,
 .s 1 45 44])
 (.skip)))))
 (.skip)))))
 (.seq (.reg [.j 46 7 5,
 .s 7 8 46])
 (.ret))))⟩
theorem ok97:okF Tryz.f97 c97:=okI (by kernel_rfl)
def c100:F':=⟨17,[.t 2],
 .seq (.reg [.o 1 (.box (.t 0)),
 .o 2 (.mv (.c (.int .i64 0)))])
 (.seq (.seq (.reg [.j 7 25 1,
 .o 8 (.call (.f 150) [(.t 7)]),
 .m 6 8,
 .e 9 0 6,
 .e 10 1 6,
 .e 11 2 6,
 .m 3 9,
 .m 4 10,
 .m 5 11])
 (.seq (.reg [.m 12 5,
 .o 13 (.un .not (.t 12))])
 (.cond (.t 13)
 (.seq (.reg [.o 2 (.mv (.c (.int .i64 2)))])
 (.ret))
 (.skip))))
 (.seq (.seq (.reg [.j 14 25 1,
 .o 15 (.call (.f 151) [(.t 14)]),
 .o 16 (.un .not (.t 15))])
 (.cond (.t 16)
 (.seq (.reg [.o 2 (.mv (.c (.int .i64 1)))])
 (.ret))
 (.skip)))
 (.seq (.reg [.o 2 (.mv (.c (.int .i64 0)))])
 (.ret))))⟩
theorem ok100:okF Tryz.f100 c100:=okI (by kernel_rfl)
def c101:F':=⟨5,[.cell 2 (some 25)],
 .seq (.reg [.o 1 (.box (.t 0)),
 .o 2 (.new zP)])
 (.seq (.reg [.j 3 8 1,
 .o 4 (.build zP [(0,0,1,(.c (.int .i64 1))),(1,1,8,(.t 3))]),
 .s 25 2 4])
 (.ret))⟩
theorem ok101:okF Tryz.f101 c101:=okI (by kernel_rfl)
def c102:F':=⟨9,[.t 2],
 .seq (.reg [.o 2 (.mv (.c (.bool false)))])
 (.seq (.reg [.m 3 0,
 .o 4 (.bin .geq (.t 3) (.c (.int .u8 97))),
 .m 5 4,
 .v 6 5 true (.mv (.t 0)),
 .v 7 5 true (.bin .leq (.t 6) (.c (.int .u8 122))),
 .y 8 5 7,
 .m 2 8])
 (.ret))⟩
theorem ok102:okF Tryz.f102 c102:=okI (by kernel_rfl)
def c103:F':=⟨6,[.t 2],
 .seq (.reg [.o 2 (.mv (.c (.bool false)))])
 (.seq (.reg [.o 3 (.call (.f 153) []),
 .m 4 0,
 .o 5 (.call (.f 152) [(.t 3),(.t 4)]),
 .m 2 5])
 (.ret))⟩
theorem ok103:okF Tryz.f103 c103:=okI (by kernel_rfl)
def c104:F':=⟨9,[.t 4],
 .seq (.reg [.o 4 (.mv (.c (.bool false)))])
 (.seq (.reg [.m 5 0,
 .m 6 1,
 .o 7 (.call (.f 154) [(.t 5),(.t 6)]),
 .u 8 .geq 7 0,
 .m 4 8])
 (.ret))⟩
theorem ok104:okF Tryz.f104 c104:=okI (by kernel_rfl)
def c105:F':=⟨6,[.t 2],
 .seq (.reg [.o 2 (.mv (.c (.bool false)))])
 (.seq (.reg [.m 3 0,
 .o 4 (.call (.f 106) [(.t 3)]),
 .o 5 (.un .not (.t 4)),
 .m 2 5])
 (.ret))⟩
theorem ok105:okF Tryz.f105 c105:=okI (by kernel_rfl)
def c106:F':=⟨9,[.t 2],
 .seq (.reg [.o 2 (.mv (.c (.bool false)))])
 (.seq (.reg [.m 3 0,
 .o 4 (.call (.f 102) [(.t 3)]),
 .m 5 4,
 .v 6 5 false (.mv (.t 0)),
 .v 7 5 false (.call (.f 155) [(.t 6)]),
 .z 8 5 7,
 .m 2 8])
 (.ret))⟩
theorem ok106:okF Tryz.f106 c106:=okI (by kernel_rfl)
def c107:F':=⟨13,[],
 .seq (.reg [.m 5 1,
 .m 6 0,
 .o 7 (.call (.f 60) [(.t 5),(.t 6)]),
 .o 8 (.eq .ptr false (.t 7) (.c .nilp))])
 (.cond (.t 8)
 (.reg [.l 9 2,
 .m 10 0,
 .o 11 (.bsl 1 [(.t 10)]),
 .o 12 (.call (.f 79) [(.t 9),(.t 11)])])
 (.skip))⟩
theorem ok107:okF Tryz.f107 c107:=okI (by kernel_rfl)
def c108:F':=⟨7,[],
 .reg [.l 3 1,
 .m 4 0,
 .o 5 (.bsl 1 [(.t 4)]),
 .o 6 (.app 1 8 (.t 3) (.t 5)),
 .s 1 1 6]⟩
theorem ok108:okF Tryz.f108 c108:=okI (by kernel_rfl)
def c109:F':=⟨14,[.cell 7 (some 7)],
 .seq (.reg [.o 4 (.box (.t 0)),
 .o 7 (.new zX)])
 (.seq (.reg [.l 8 3,
 .f 9 5 4,
 .l 10 9,
 .m 11 1,
 .o 12 (.call (.t 8) [(.t 10),(.t 11)])])
 (.seq (.reg [.j 13 7 4,
 .s 7 7 13])
 (.ret)))⟩
theorem ok109:okF Tryz.f109 c109:=okI (by kernel_rfl)
def c111:F':=⟨31,[.t 6],
 .seq (.reg [.o 6 (.mv (.c (.sl true [])))])
 (.seq (.reg [.o 7 (.mv (.c (.sl true [])))])
 (.seq (.seq (.reg [.m 11 1,
 .o 12 (.len false (.t 11)),
 .o 13 (.mv (.c (.int .i64 0)))])
 (.block 0 (.loop (.seq (.reg [.b 14 .lss 13 12])
 (.seq (.cond (.t 14)
 (.skip)
 (.exit 0))
 (.seq (.block 1 (.seq (.reg [.i 15 8 11 13,
 .j 16 8 15,
 .o 9 (.new zS),
 .s 8 9 16])
 (.seq (.reg [.j 17 8 9,
 .o 18 (.bsl 8 [(.t 17)]),
 .m 10 18])
 (.reg [.m 19 7,
 .m 20 0,
 .m 21 10,
 .m 22 0,
 .m 23 2,
 .m 24 10,
 .o 25 (.call (.f 158) [(.t 24)]),
 .o 26 (.call (.f 157) [(.t 22),(.t 23),(.t 25)]),
 .o 27 (.call (.f 156) [(.t 20),(.t 21),(.t 26)]),
 .o 28 (.app 8 168 (.t 19) (.t 27)),
 .m 7 28]))))
 (.reg [.u 29 .add 13 1,
 .m 13 29])))))))
 (.seq (.reg [.m 30 7,
 .m 6 30])
 (.ret))))⟩
theorem ok111:okF Tryz.f111 c111:=okI (by kernel_rfl)
def c113:F':=⟨5,[.cell 2 (some 25)],
 .seq (.reg [.o 1 (.box (.t 0)),
 .o 2 (.new zP)])
 (.seq (.reg [.j 3 8 1,
 .o 4 (.build zP [(0,0,1,(.c (.int .i64 1))),(1,1,8,(.t 3))]),
 .s 25 2 4])
 (.ret))⟩
theorem ok113:okF Tryz.f113 c113:=okI (by kernel_rfl)
def c118:F':=⟨16,[.t 4],
 .seq (.reg [.o 2 (.box (.t 0)),
 .o 3 (.box (.t 1)),
 .o 4 (.mv (.c (.bool false)))])
 (.seq (.reg [.j 5 25 2,
 .o 6 (.call (.f 159) [(.t 5)]),
 .m 7 6,
 .v 8 7 true (.ld (some 25) (.t 3)),
 .v 9 7 true (.call (.f 159) [(.t 8)]),
 .y 10 7 9,
 .m 11 10,
 .v 12 11 true (.ld (some 25) (.t 2)),
 .v 13 11 true (.ld (some 25) (.t 3)),
 .v 14 11 true (.call (.f 164) [(.t 12),(.t 13)]),
 .y 15 11 14,
 .m 4 15])
 (.ret))⟩
theorem ok118:okF Tryz.f118 c118:=okI (by kernel_rfl)
def c119:F':=⟨32,[.t 6],
 .seq (.reg [.o 6 (.mv (.c (.bool false)))])
 (.seq (.seq (.reg [.m 10 0,
 .o 11 (.len false (.t 10)),
 .m 12 1,
 .o 13 (.len false (.t 12)),
 .b 14 .neq 11 13])
 (.cond (.t 14)
 (.seq (.reg [.o 6 (.mv (.c (.bool false)))])
 (.ret))
 (.skip)))
 (.seq (.seq (.reg [.m 15 0,
 .o 16 (.len false (.t 15)),
 .o 17 (.mv (.c (.int .i64 0)))])
 (.block 0 (.loop (.seq (.reg [.b 18 .lss 17 16])
 (.seq (.cond (.t 18)
 (.skip)
 (.exit 0))
 (.seq (.block 1 (.seq (.reg [.m 19 17,
 .i 20 8 15 17,
 .j 21 8 20,
 .o 8 (.new zS),
 .m 7 19,
 .s 8 8 21])
 (.seq (.reg [.m 22 1,
 .m 23 7,
 .i 24 8 22 23,
 .j 25 8 24,
 .o 9 (.new zS),
 .s 8 9 25])
 (.seq (.reg [.m 26 2,
 .j 27 8 8,
 .j 28 8 9,
 .o 29 (.call (.t 26) [(.t 27),(.t 28)]),
 .o 30 (.un .not (.t 29))])
 (.cond (.t 30)
 (.seq (.reg [.o 6 (.mv (.c (.bool false)))])
 (.ret))
 (.skip))))))
 (.reg [.u 31 .add 17 1,
 .m 17 31])))))))
 (.seq (.reg [.o 6 (.mv (.c (.bool true)))])
 (.ret))))⟩
theorem ok119:okF Tryz.f119 c119:=okI (by kernel_rfl)
def c120:F':=⟨63,[.t 4],
 .seq (.reg [.o 2 (.box (.t 0)),
 .o 3 (.box (.t 1)),
 .o 4 (.mv (.c (.bool false)))])
 (.seq (.reg [.f 7 5 2,
 .l 8 7,
 .f 9 5 3,
 .l 10 9,
 .o 11 (.call (.f 121) [(.t 8),(.t 10),(.f 122)]),
 .m 5 11])
 (.seq (.reg [.f 12 6 2,
 .l 13 12,
 .f 14 6 3,
 .l 15 14,
 .o 16 (.call (.f 124) [(.t 13),(.t 15),(.f 125)]),
 .m 6 16])
 (.seq (.reg [.m 17 5,
 .m 18 17,
 .v 19 18 true (.mv (.t 6)),
 .y 20 18 19,
 .m 21 20,
 .v 22 21 true (.fa 0 (.t 2)),
 .v 23 21 true (.ld none (.t 22)),
 .v 24 21 true (.fa 0 (.t 3)),
 .v 25 21 true (.ld none (.t 24)),
 .v 26 21 true (.call (.f 126) [(.t 23),(.t 25)]),
 .y 27 21 26,
 .m 28 27,
 .v 29 28 true (.fa 1 (.t 2)),
 .v 30 28 true (.ld none (.t 29)),
 .v 31 28 true (.fa 1 (.t 3)),
 .v 32 28 true (.ld none (.t 31)),
 .v 33 28 true (.bin .eql (.t 30) (.t 32)),
 .y 34 28 33,
 .m 35 34,
 .v 36 35 true (.fa 2 (.t 2)),
 .v 37 35 true (.ld none (.t 36)),
 .v 38 35 true (.fa 2 (.t 3)),
 .v 39 35 true (.ld none (.t 38)),
 .v 40 35 true (.bin .eql (.t 37) (.t 39)),
 .y 41 35 40,
 .m 42 41,
 .v 43 42 true (.fa 3 (.t 2)),
 .v 44 42 true (.ld none (.t 43)),
 .v 45 42 true (.fa 3 (.t 3)),
 .v 46 42 true (.ld none (.t 45)),
 .v 47 42 true (.call (.f 123) [(.t 44),(.t 46)]),
 .y 48 42 47,
 .m 49 48,
 .v 50 49 true (.fa 4 (.t 2)),
 .v 51 49 true (.ld none (.t 50)),
 .v 52 49 true (.fa 4 (.t 3)),
 .v 53 49 true (.ld none (.t 52)),
 .v 54 49 true (.call (.f 123) [(.t 51),(.t 53)]),
 .y 55 49 54,
 .m 56 55,
 .v 57 56 true (.fa 7 (.t 2)),
 .v 58 56 true (.ld none (.t 57)),
 .v 59 56 true (.fa 7 (.t 3)),
 .v 60 56 true (.ld none (.t 59)),
 .v 61 56 true (.call (.f 69) [(.t 58),(.t 60)]),
 .y 62 56 61,
 .m 4 62])
 (.ret))))⟩
theorem ok120:okF Tryz.f120 c120:=okI (by kernel_rfl)
def c121:F':=⟨32,[.t 6],
 .seq (.reg [.o 6 (.mv (.c (.bool false)))])
 (.seq (.seq (.reg [.m 10 0,
 .o 11 (.len false (.t 10)),
 .m 12 1,
 .o 13 (.len false (.t 12)),
 .b 14 .neq 11 13])
 (.cond (.t 14)
 (.seq (.reg [.o 6 (.mv (.c (.bool false)))])
 (.ret))
 (.skip)))
 (.seq (.seq (.reg [.m 15 0,
 .o 16 (.len false (.t 15)),
 .o 17 (.mv (.c (.int .i64 0)))])
 (.block 0 (.loop (.seq (.reg [.b 18 .lss 17 16])
 (.seq (.cond (.t 18)
 (.skip)
 (.exit 0))
 (.seq (.block 1 (.seq (.reg [.m 19 17,
 .i 20 2 15 17,
 .j 21 2 20,
 .o 8 (.new zE),
 .m 7 19,
 .s 2 8 21])
 (.seq (.reg [.m 22 1,
 .m 23 7,
 .i 24 2 22 23,
 .j 25 2 24,
 .o 9 (.new zE),
 .s 2 9 25])
 (.seq (.reg [.m 26 2,
 .j 27 2 8,
 .j 28 2 9,
 .o 29 (.call (.t 26) [(.t 27),(.t 28)]),
 .o 30 (.un .not (.t 29))])
 (.cond (.t 30)
 (.seq (.reg [.o 6 (.mv (.c (.bool false)))])
 (.ret))
 (.skip))))))
 (.reg [.u 31 .add 17 1,
 .m 17 31])))))))
 (.seq (.reg [.o 6 (.mv (.c (.bool true)))])
 (.ret))))⟩
theorem ok121:okF Tryz.f121 c121:=okI (by kernel_rfl)
def c123:F':=⟨8,[.t 4],
 .seq (.reg [.o 4 (.mv (.c (.bool false)))])
 (.seq (.reg [.m 5 0,
 .m 6 1,
 .o 7 (.call (.f 165) [(.t 5),(.t 6),(.f 166)]),
 .m 4 7])
 (.ret))⟩
theorem ok123:okF Tryz.f123 c123:=okI (by kernel_rfl)
def c124:F':=⟨32,[.t 6],
 .seq (.reg [.o 6 (.mv (.c (.bool false)))])
 (.seq (.seq (.reg [.m 10 0,
 .o 11 (.len false (.t 10)),
 .m 12 1,
 .o 13 (.len false (.t 12)),
 .b 14 .neq 11 13])
 (.cond (.t 14)
 (.seq (.reg [.o 6 (.mv (.c (.bool false)))])
 (.ret))
 (.skip)))
 (.seq (.seq (.reg [.m 15 0,
 .o 16 (.len false (.t 15)),
 .o 17 (.mv (.c (.int .i64 0)))])
 (.block 0 (.loop (.seq (.reg [.b 18 .lss 17 16])
 (.seq (.cond (.t 18)
 (.skip)
 (.exit 0))
 (.seq (.block 1 (.seq (.reg [.m 19 17,
 .i 20 7 15 17,
 .j 21 7 20,
 .o 8 (.new zD),
 .m 7 19,
 .s 7 8 21])
 (.seq (.reg [.m 22 1,
 .m 23 7,
 .i 24 7 22 23,
 .j 25 7 24,
 .o 9 (.new zD),
 .s 7 9 25])
 (.seq (.reg [.m 26 2,
 .j 27 7 8,
 .j 28 7 9,
 .o 29 (.call (.t 26) [(.t 27),(.t 28)]),
 .o 30 (.un .not (.t 29))])
 (.cond (.t 30)
 (.seq (.reg [.o 6 (.mv (.c (.bool false)))])
 (.ret))
 (.skip))))))
 (.reg [.u 31 .add 17 1,
 .m 17 31])))))))
 (.seq (.reg [.o 6 (.mv (.c (.bool true)))])
 (.ret))))⟩
theorem ok124:okF Tryz.f124 c124:=okI (by kernel_rfl)
def c125:F':=⟨52,[.t 4],
 .seq (.reg [.o 2 (.box (.t 0)),
 .o 3 (.box (.t 1)),
 .o 4 (.mv (.c (.bool false)))])
 (.seq (.reg [.f 5 0 2,
 .l 6 5,
 .f 7 0 3,
 .l 8 7,
 .b 9 .eql 6 8,
 .m 10 9,
 .v 11 10 true (.fa 1 (.t 2)),
 .v 12 10 true (.ld none (.t 11)),
 .v 13 10 true (.fa 1 (.t 3)),
 .v 14 10 true (.ld none (.t 13)),
 .v 15 10 true (.eq .bool false (.t 12) (.t 14)),
 .y 16 10 15,
 .m 17 16,
 .v 18 17 true (.fa 2 (.t 2)),
 .v 19 17 true (.ld none (.t 18)),
 .v 20 17 true (.fa 2 (.t 3)),
 .v 21 17 true (.ld none (.t 20)),
 .v 22 17 true (.bin .eql (.t 19) (.t 21)),
 .y 23 17 22,
 .m 24 23,
 .v 25 24 true (.fa 3 (.t 2)),
 .v 26 24 true (.ld none (.t 25)),
 .v 27 24 true (.fa 3 (.t 3)),
 .v 28 24 true (.ld none (.t 27)),
 .v 29 24 true (.call (.f 126) [(.t 26),(.t 28)]),
 .y 30 24 29,
 .m 31 30,
 .v 32 31 true (.fa 4 (.t 2)),
 .v 33 31 true (.ld none (.t 32)),
 .v 34 31 true (.fa 4 (.t 3)),
 .v 35 31 true (.ld none (.t 34)),
 .v 36 31 true (.call (.f 123) [(.t 33),(.t 35)]),
 .y 37 31 36,
 .m 38 37,
 .v 39 38 true (.fa 5 (.t 2)),
 .v 40 38 true (.ld none (.t 39)),
 .v 41 38 true (.fa 5 (.t 3)),
 .v 42 38 true (.ld none (.t 41)),
 .v 43 38 true (.call (.f 127) [(.t 40),(.t 42)]),
 .y 44 38 43,
 .m 45 44,
 .v 46 45 true (.fa 6 (.t 2)),
 .v 47 45 true (.ld none (.t 46)),
 .v 48 45 true (.fa 6 (.t 3)),
 .v 49 45 true (.ld none (.t 48)),
 .v 50 45 true (.call (.f 69) [(.t 47),(.t 49)]),
 .y 51 45 50,
 .m 4 51])
 (.ret))⟩
theorem ok125:okF Tryz.f125 c125:=okI (by kernel_rfl)
def c126:F':=⟨26,[.t 4],
 .seq (.reg [.o 4 (.mv (.c (.bool false)))])
 (.seq (.seq (.reg [.m 6 0,
 .o 7 (.len false (.t 6)),
 .m 8 1,
 .o 9 (.len false (.t 8)),
 .b 10 .neq 7 9])
 (.cond (.t 10)
 (.seq (.reg [.o 4 (.mv (.c (.bool false)))])
 (.ret))
 (.skip)))
 (.seq (.seq (.reg [.m 11 0,
 .o 12 (.len false (.t 11)),
 .o 13 (.mv (.c (.int .i64 0)))])
 (.block 0 (.loop (.seq (.reg [.b 14 .lss 13 12])
 (.seq (.cond (.t 14)
 (.skip)
 (.exit 0))
 (.seq (.block 1 (.seq (.reg [.m 15 13,
 .m 5 15])
 (.seq (.draw [⟨.m 16 0,false,none,false,[],0,0⟩,
 ⟨.m 17 5,false,none,false,[],0,0⟩,
 ⟨.i 18 1 16 17,false,none,false,[0,1],0,0⟩,
 ⟨.l 19 18,false,none,false,[2,0,1],0,0⟩,
 ⟨.m 20 1,false,none,false,[],0,0⟩,
 ⟨.m 21 5,false,none,false,[],0,0⟩,
 ⟨.i 22 1 20 21,false,none,false,[4,5],0,0⟩,
 ⟨.l 23 22,false,none,false,[6,4,5],0,0⟩,
 ⟨.b 24 .neq 19 23,false,none,false,[3,7,2,0,1,6,4,5],0,0⟩] [])
 (.cond (.t 24)
 (.seq (.reg [.o 4 (.mv (.c (.bool false)))])
 (.ret))
 (.skip)))))
 (.reg [.u 25 .add 13 1,
 .m 13 25])))))))
 (.seq (.reg [.o 4 (.mv (.c (.bool true)))])
 (.ret))))⟩
theorem ok126:okF Tryz.f126 c126:=okI (by kernel_rfl)
def c127:F':=⟨26,[.t 4],
 .seq (.reg [.o 4 (.mv (.c (.bool false)))])
 (.seq (.seq (.reg [.m 6 0,
 .o 7 (.len false (.t 6)),
 .m 8 1,
 .o 9 (.len false (.t 8)),
 .b 10 .neq 7 9])
 (.cond (.t 10)
 (.seq (.reg [.o 4 (.mv (.c (.bool false)))])
 (.ret))
 (.skip)))
 (.seq (.seq (.reg [.m 11 0,
 .o 12 (.len false (.t 11)),
 .o 13 (.mv (.c (.int .i64 0)))])
 (.block 0 (.loop (.seq (.reg [.b 14 .lss 13 12])
 (.seq (.cond (.t 14)
 (.skip)
 (.exit 0))
 (.seq (.block 1 (.seq (.reg [.m 15 13,
 .m 5 15])
 (.seq (.draw [⟨.m 16 0,false,none,false,[],0,0⟩,
 ⟨.m 17 5,false,none,false,[],0,0⟩,
 ⟨.i 18 4 16 17,false,none,false,[0,1],0,0⟩,
 ⟨.j 19 4 18,false,none,false,[2,0,1],0,0⟩,
 ⟨.m 20 1,false,none,false,[],0,0⟩,
 ⟨.m 21 5,false,none,false,[],0,0⟩,
 ⟨.i 22 4 20 21,false,none,false,[4,5],0,0⟩,
 ⟨.j 23 4 22,false,none,false,[6,4,5],0,0⟩,
 ⟨.o 24 (.ex (.eqs true 4 [(0,.s),(1,.b),(2,.i),(3,.i)] (.t 19) (.t 23))),false,none,false,[3,7,2,0,1,6,4,5],0,0⟩] [])
 (.cond (.t 24)
 (.seq (.reg [.o 4 (.mv (.c (.bool false)))])
 (.ret))
 (.skip)))))
 (.reg [.u 25 .add 13 1,
 .m 13 25])))))))
 (.seq (.reg [.o 4 (.mv (.c (.bool true)))])
 (.ret))))⟩
theorem ok127:okF Tryz.f127 c127:=okI (by kernel_rfl)
def c128:F':=⟨11,[],
 .reg [.m 2 0,
 .m 3 0,
 .h 4 3,
 .f 5 0 4,
 .l 6 5,
 .o 7 (.call (.f 129) [(.t 6)]),
 .o 8 (.bin .add (.c (.str ⟨⟨[35]⟩⟩)) (.t 7)),
 .h 9 2,
 .f 10 2 9,
 .s 1 10 8]⟩
theorem ok128:okF Tryz.f128 c128:=okI (by kernel_rfl)
def c129:F':=cmp Tryz.f129
theorem ok129:okF Tryz.f129 c129:=okI (by kernel_rfl)
def c130:F':=⟨6,[.t 2],
 .seq (.reg [.o 1 (.box (.t 0)),
 .o 2 (.mv (.c (.int .i64 0)))])
 (.seq (.reg [.j 3 7 1,
 .o 4 (.call (.f 168) [(.t 3)]),
 .o 5 (.call (.f 100) [(.t 4)]),
 .m 2 5])
 (.ret))⟩
theorem ok130:okF Tryz.f130 c130:=okI (by kernel_rfl)
def c131:F':=⟨9,[.t 4],
 .seq (.reg [.o 4 (.mv (.c (.bool false)))])
 (.seq (.reg [.m 5 0,
 .m 6 1,
 .o 7 (.call (.f 169) [(.t 5),(.t 6)]),
 .u 8 .geq 7 0,
 .m 4 8])
 (.ret))⟩
theorem ok131:okF Tryz.f131 c131:=okI (by kernel_rfl)
def c132:F':=cmp Tryz.f132
theorem ok132:okF Tryz.f132 c132:=okI (by kernel_rfl)
def c133:F':=cmp Tryz.f133
theorem ok133:okF Tryz.f133 c133:=okI (by kernel_rfl)
def c134:F':=⟨28,[.t 8],
 .seq (.reg [.o 8 (.mv (.c (.sl true [])))])
 (.seq (.reg [.o 9 (.mv (.c (.sl true [])))])
 (.seq (.seq (.reg [.m 12 1,
 .o 13 (.len false (.t 12)),
 .o 14 (.mv (.c (.int .i64 0)))])
 (.block 0 (.loop (.seq (.reg [.b 15 .lss 14 13])
 (.seq (.cond (.t 15)
 (.skip)
 (.exit 0))
 (.seq (.block 1 (.seq (.reg [.i 16 7 12 14,
 .j 17 7 16,
 .o 11 (.new zX),
 .s 7 11 17])
 (.reg [.m 18 9,
 .m 19 0,
 .j 20 7 11,
 .m 21 2,
 .m 22 3,
 .o 23 (.call (.f 97) [(.t 19),(.t 20),(.t 21),(.t 22)]),
 .o 24 (.bsl 7 [(.t 23)]),
 .o 25 (.app 7 80 (.t 18) (.t 24)),
 .m 9 25])))
 (.reg [.u 26 .add 14 1,
 .m 14 26])))))))
 (.seq (.reg [.m 27 9,
 .m 8 27])
 (.ret))))⟩
theorem ok134:okF Tryz.f134 c134:=okI (by kernel_rfl)
def c136:F':=cmp Tryz.f136
theorem ok136:okF Tryz.f136 c136:=okI (by kernel_rfl)
def c137:F':=cmp Tryz.f137
theorem ok137:okF Tryz.f137 c137:=okI (by kernel_rfl)
def c138:F':=⟨9,[.t 4],
 .seq (.reg [.o 4 (.mv (.c (.bool false)))])
 (.seq (.reg [.m 5 0,
 .m 6 1,
 .o 7 (.call (.f 173) [(.t 5),(.t 6)]),
 .u 8 .geq 7 0,
 .m 4 8])
 (.ret))⟩
theorem ok138:okF Tryz.f138 c138:=okI (by kernel_rfl)
def c139:F':=cmp Tryz.f139
theorem ok139:okF Tryz.f139 c139:=okI (by kernel_rfl)
def c142:F':=⟨5,[.cell 2 (some 25)],
 .seq (.reg [.o 1 (.box (.t 0)),
 .o 2 (.new zP)])
 (.seq (.reg [.j 3 7 1,
 .o 4 (.build zP [(0,0,1,(.c (.int .i64 4))),(4,18,7,(.t 3))]),
 .s 25 2 4])
 (.ret))⟩
theorem ok142:okF Tryz.f142 c142:=okI (by kernel_rfl)
def c146:F':=cmp Tryz.f146
theorem ok146:okF Tryz.f146 c146:=okI (by kernel_rfl)
def c147:F':=cmp Tryz.f147
theorem ok147:okF Tryz.f147 c147:=okI (by kernel_rfl)
def c149:F':=cmp Tryz.f149
theorem ok149:okF Tryz.f149 c149:=okI (by kernel_rfl)
def c150:F':=⟨13,[.cell 2 none,.cell 3 none,.t 4],
 .seq (.reg [.o 1 (.box (.t 0)),
 .o 2 (.new (.int .i64 0)),
 .o 3 (.new (.int .i64 0)),
 .o 4 (.mv (.c (.bool false)))])
 (.seq (.reg [.o 5 (.new .nilfn)])
 (.seq (.reg [.o 6 (.mkf 177 [] [(.t 2),(.t 3),(.t 5)]),
 .s 1 5 6])
 (.seq (.reg [.l 7 5,
 .j 8 25 1,
 .o 9 (.call (.t 7) [(.t 8),(.c (.int .i64 1))]),
 .m 4 9])
 (.seq (.draw [⟨.l 10 2,false,none,false,[],0,0⟩,
 ⟨.l 11 3,false,none,true,[],0,1⟩,
 ⟨.m 12 4,false,none,false,[],0,2⟩,
 ⟨.s 1 2 10,true,none,false,[0],0,0⟩,
 ⟨.s 1 3 11,true,none,false,[1,3,0],1,1⟩,
 ⟨.m 4 12,false,none,false,[2,4,1,3,0],2,2⟩] [])
 (.ret)))))⟩
theorem ok150:okF Tryz.f150 c150:=okI (by kernel_rfl)
noncomputable def c151:F':=⟨35,[.cell 2 none],
 .seq (.reg [.o 1 (.box (.t 0)),
 .o 2 (.new (.bool false))])
 (.seq (.reg [.o 3 (.mv (.c (.bool false)))])
 (.seq (.seq (.reg [.f 5 0 1,
 .l 6 5])
 (.block 0 (.seq (.reg [.u 8 .eql 6 4,
 .m 7 8])
 (.cond (.t 7)
 (.reg [.f 9 18 1,
 .j 10 7 9,
 .o 11 (.call (.f 180) [(.t 10)]),
 .m 3 11])
 (.seq (.reg [.u 13 .eql 6 3,
 .m 12 13])
 (.cond (.t 12)
 (.reg [.f 14 16 1,
 .j 15 2 14,
 .o 16 (.call (.f 181) [(.t 15)]),
 .m 3 16])
 (.seq (.reg [.u 18 .eql 6 2,
 .m 17 18])
 (.cond (.t 17)
 (.reg [.f 19 9 1,
 .j 20 7 19,
 .o 21 (.call (.f 182) [(.t 20)]),
 .m 3 21])
 (.seq (.reg [.u 23 .eql 6 1,
 .m 22 23])
 (.cond (.t 22)
 (.reg [.f 24 1 1,
 .j 25 8 24,
 .o 26 (.call (.f 183) [(.t 25)]),
 .m 3 26])
 (.skip)))))))))))
 (.seq (.seq (.reg [.m 27 3,
 .o 28 (.un .not (.t 27))])
 (.cond (.t 28)
 (.seq (.reg [.n (.sto 1 (.t 2) (.c (.bool false)))])
 (.ret))
 (.skip)))
 (.seq (.seq (.reg [.j 29 25 1,
 .o 30 (.call (.f 179) [(.t 29)])])
 (.block 1 (.rf (.t 30) [31] (rfAt Tryz.f151 0).1 (rfAt Tryz.f151 0).2
 (.reg [.o 4 (.new zP),
 .s 25 4 31])
 (.block 2 (.seq (.reg [.j 32 25 4,
 .o 33 (.call (.f 151) [(.t 32)]),
 .o 34 (.un .not (.t 33))])
 (.cond (.t 34)
 (.seq (.reg [.n (.sto 1 (.t 2) (.c (.bool false)))])
 (.ret))
 (.skip))))
 35 [31,4,32,33,34,2])))
 (.seq (.reg [.n (.sto 1 (.t 2) (.c (.bool true)))])
 (.ret))))))⟩
theorem ok151:okF Tryz.f151 c151:=okI (by kernel_rfl)
def c152:F':=⟨9,[.t 4],
 .seq (.reg [.o 4 (.mv (.c (.bool false)))])
 (.seq (.reg [.m 5 0,
 .m 6 1,
 .o 7 (.call (.f 184) [(.t 5),(.t 6)]),
 .u 8 .geq 7 0,
 .m 4 8])
 (.ret))⟩
theorem ok152:okF Tryz.f152 c152:=okI (by kernel_rfl)
def c153:F':=cmp Tryz.f153
theorem ok153:okF Tryz.f153 c153:=okI (by kernel_rfl)
def c154:F':=⟨19,[.t 4],
 .seq (.reg [.o 4 (.mv (.c (.int .i64 0)))])
 (.seq (.seq (.reg [.m 6 0,
 .o 7 (.len false (.t 6)),
 .o 8 (.mv (.c (.int .i64 0)))])
 (.block 0 (.loop (.seq (.reg [.b 9 .lss 8 7])
 (.seq (.cond (.t 9)
 (.skip)
 (.exit 0))
 (.seq (.block 1 (.seq (.reg [.m 10 8,
 .m 5 10])
 (.seq (.reg [.m 11 1,
 .m 12 0,
 .m 13 5,
 .i 14 1 12 13,
 .l 15 14,
 .o 16 (.call (.t 11) [(.t 15)])])
 (.cond (.t 16)
 (.seq (.reg [.m 17 5,
 .m 4 17])
 (.ret))
 (.skip)))))
 (.reg [.u 18 .add 8 1,
 .m 8 18])))))))
 (.seq (.reg [.o 4 (.mv (.c (.int .i64 (-1))))])
 (.ret)))⟩
theorem ok154:okF Tryz.f154 c154:=okI (by kernel_rfl)
def c155:F':=⟨9,[.t 2],
 .seq (.reg [.o 2 (.mv (.c (.bool false)))])
 (.seq (.reg [.m 3 0,
 .o 4 (.bin .geq (.t 3) (.c (.int .u8 48))),
 .m 5 4,
 .v 6 5 true (.mv (.t 0)),
 .v 7 5 true (.bin .leq (.t 6) (.c (.int .u8 57))),
 .y 8 5 7,
 .m 2 8])
 (.ret))⟩
theorem ok155:okF Tryz.f155 c155:=okI (by kernel_rfl)
def c156:F':=⟨25,[.t 6],
 .seq (.reg [.o 6 (.mv (.c (.sl true [])))])
 (.seq (.reg [.o 7 (.mv (.c (.sl true [])))])
 (.seq (.seq (.reg [.m 10 1,
 .o 11 (.len false (.t 10)),
 .o 12 (.mv (.c (.int .i64 0)))])
 (.block 0 (.loop (.seq (.reg [.b 13 .lss 12 11])
 (.seq (.cond (.t 13)
 (.skip)
 (.exit 0))
 (.seq (.block 1 (.seq (.reg [.i 14 8 10 12,
 .j 15 8 14,
 .o 9 (.new zS),
 .s 8 9 15])
 (.reg [.m 16 7,
 .m 17 0,
 .j 18 8 9,
 .m 19 2,
 .o 20 (.call (.f 186) [(.t 17),(.t 18),(.t 19)]),
 .o 21 (.bsl 8 [(.t 20)]),
 .o 22 (.app 8 168 (.t 16) (.t 21)),
 .m 7 22])))
 (.reg [.u 23 .add 12 1,
 .m 12 23])))))))
 (.seq (.reg [.m 24 7,
 .m 6 24])
 (.ret))))⟩
theorem ok156:okF Tryz.f156 c156:=okI (by kernel_rfl)
noncomputable def c157:F':=⟨63,[.t 6],
 .seq (.reg [.o 3 (.box (.t 0)),
 .o 6 (.mv (.c .nilp))])
 (.seq (.reg [.m 12 1,
 .o 13 (.ex (.wrap 1 (.t 12))),
 .o 14 (.box (.t 13)),
 .o 15 (.ex (.mkm)),
 .o 16 (.build (.agg [.nilp,.nilmap]) [(0,0,1,(.t 14)),(1,1,1,(.t 15))]),
 .o 17 (.box (.t 16)),
 .o 7 (.new .nilp),
 .s 1 7 17])
 (.seq (.seq (.reg [.m 18 2])
 (.block 0 (.rf (.t 18) [19] (rfAt Tryz.f157 0).1 (rfAt Tryz.f157 0).2
 (.reg [.m 8 19])
 (.block 1 (.seq (.seq (.reg [.l 21 7,
 .h 22 21,
 .f 23 1 22,
 .l 24 23,
 .m 25 8,
 .o 26 (.ex (.lkp .str .nilp true (.t 24) (.t 25))),
 .m 20 26,
 .e 27 0 20,
 .e 28 1 20,
 .m 9 27,
 .m 10 28])
 (.seq (.reg [.m 29 10])
 (.cond (.t 29)
 (.exit 1)
 (.skip))))
 (.seq (.reg [.l 30 3,
 .h 31 30,
 .f 32 0 31,
 .l 33 32,
 .m 34 8,
 .m 35 8,
 .o 36 (.build (.agg [(.int .i64 0),(.str ⟨⟨[]⟩⟩),(.str ⟨⟨[]⟩⟩)]) [(0,0,1,(.t 33)),(1,1,1,(.t 34)),(2,2,1,(.t 35))]),
 .o 37 (.box (.t 36)),
 .m 11 37])
 (.seq (.reg [.l 38 3,
 .h 39 38,
 .f 40 0 39,
 .l 41 40,
 .u 42 .add 41 1,
 .h 43 38,
 .f 44 0 43,
 .s 1 44 42])
 (.seq (.reg [.l 45 7,
 .h 46 45,
 .f 47 1 46,
 .l 48 47,
 .m 49 8,
 .m 50 11,
 .n (.ex (.mup .str (.t 48) (.t 49) (.t 50)))])
 (.seq (.reg [.l 51 3,
 .h 52 51,
 .f 53 1 52,
 .l 54 53,
 .o 55 (.eq .func true (.t 54) (.c .nilfn))])
 (.cond (.t 55)
 (.reg [.l 56 3,
 .h 57 56,
 .f 58 1 57,
 .l 59 58,
 .m 60 11,
 .o 61 (.call (.t 59) [(.t 60)])])
 (.skip))))))))
 63 [19,21,22,23,24,25,26,20,27,28,10,29,30,31,32,33,34,35,36,37,39,40,41,38,43,44,42,7,45,46,47,8,48,49,50,51,52,53,54,55,3,56,57,58,11,59,60])))
 (.seq (.reg [.l 62 7,
 .m 6 62])
 (.ret))))⟩
theorem ok157:okF Tryz.f157 c157:=okI (by kernel_rfl)
def c158:F':=⟨4,[.t 2],
 .seq (.reg [.o 1 (.box (.t 0)),
 .o 2 (.mv (.c .nilfn))])
 (.seq (.reg [.o 3 (.mkf 187 [] [(.t 1)]),
 .m 2 3])
 (.ret))⟩
theorem ok158:okF Tryz.f158 c158:=okI (by kernel_rfl)
def c159:F':=⟨11,[.t 2],
 .seq (.reg [.o 1 (.box (.t 0)),
 .o 2 (.mv (.c (.bool false)))])
 (.seq (.reg [.j 3 25 1,
 .o 4 (.call (.f 174) [(.t 3),(.c (.int .i64 2000))]),
 .u 5 .geq 4 0,
 .m 6 5,
 .v 7 6 true (.ld (some 25) (.t 1)),
 .v 8 6 true (.call (.f 188) [(.t 7)]),
 .v 9 6 true (.bin .leq (.t 8) (.c (.int .i64 60))),
 .y 10 6 9,
 .m 2 10])
 (.ret))⟩
theorem ok159:okF Tryz.f159 c159:=okI (by kernel_rfl)
def c164:F':=⟨32,[.t 4],
 .seq (.reg [.o 2 (.box (.t 0)),
 .o 3 (.box (.t 1)),
 .o 4 (.mv (.c (.bool false)))])
 (.seq (.seq (.reg [.j 8 25 2,
 .j 9 25 3,
 .o 10 (.call (.f 195) [(.t 8),(.t 9)]),
 .o 11 (.un .not (.t 10))])
 (.cond (.t 11)
 (.seq (.reg [.o 4 (.mv (.c (.bool false)))])
 (.ret))
 (.skip)))
 (.seq (.reg [.j 12 25 2,
 .o 13 (.call (.f 193) [(.t 12)]),
 .m 5 13])
 (.seq (.reg [.j 14 25 3,
 .o 15 (.call (.f 193) [(.t 14)]),
 .m 6 15])
 (.seq (.seq (.reg [.o 7 (.mv (.c (.int .i64 0)))])
 (.block 0 (.loop (.seq (.seq (.reg [.m 16 7,
 .m 17 5,
 .o 18 (.len false (.t 17)),
 .b 19 .lss 16 18])
 (.cond (.t 19)
 (.skip)
 (.exit 0)))
 (.seq (.block 1 (.seq (.draw [⟨.m 22 5,false,none,false,[],0,0⟩,
 ⟨.m 23 7,false,none,false,[],0,0⟩,
 ⟨.i 24 25 22 23,false,none,false,[0,1],0,0⟩,
 ⟨.j 25 25 24,false,none,false,[2,0,1],0,0⟩,
 ⟨.m 26 6,false,none,false,[],0,0⟩,
 ⟨.m 27 7,false,none,false,[],0,0⟩,
 ⟨.i 28 25 26 27,false,none,false,[4,5],0,0⟩,
 ⟨.j 29 25 28,false,none,false,[6,4,5],0,0⟩,
 ⟨.o 30 (.call (.f 164) [(.t 25),(.t 29)]),true,none,false,[3,7,2,0,1,6,4,5],0,0⟩,
 ⟨.o 31 (.un .not (.t 30)),false,none,false,[8,3,7,2,0,1,6,4,5],1,1⟩] [])
 (.cond (.t 31)
 (.seq (.reg [.o 4 (.mv (.c (.bool false)))])
 (.ret))
 (.skip))))
 (.reg [.m 20 7,
 .u 21 .add 20 1,
 .m 7 21]))))))
 (.seq (.reg [.o 4 (.mv (.c (.bool true)))])
 (.ret))))))⟩
theorem ok164:okF Tryz.f164 c164:=okI (by kernel_rfl)
def c165:F':=⟨32,[.t 6],
 .seq (.reg [.o 6 (.mv (.c (.bool false)))])
 (.seq (.seq (.reg [.m 10 0,
 .o 11 (.len false (.t 10)),
 .m 12 1,
 .o 13 (.len false (.t 12)),
 .b 14 .neq 11 13])
 (.cond (.t 14)
 (.seq (.reg [.o 6 (.mv (.c (.bool false)))])
 (.ret))
 (.skip)))
 (.seq (.seq (.reg [.m 15 0,
 .o 16 (.len false (.t 15)),
 .o 17 (.mv (.c (.int .i64 0)))])
 (.block 0 (.loop (.seq (.reg [.b 18 .lss 17 16])
 (.seq (.cond (.t 18)
 (.skip)
 (.exit 0))
 (.seq (.block 1 (.seq (.reg [.m 19 17,
 .i 20 7 15 17,
 .j 21 7 20,
 .o 8 (.new zX),
 .m 7 19,
 .s 7 8 21])
 (.seq (.reg [.m 22 1,
 .m 23 7,
 .i 24 7 22 23,
 .j 25 7 24,
 .o 9 (.new zX),
 .s 7 9 25])
 (.seq (.reg [.m 26 2,
 .j 27 7 8,
 .j 28 7 9,
 .o 29 (.call (.t 26) [(.t 27),(.t 28)]),
 .o 30 (.un .not (.t 29))])
 (.cond (.t 30)
 (.seq (.reg [.o 6 (.mv (.c (.bool false)))])
 (.ret))
 (.skip))))))
 (.reg [.u 31 .add 17 1,
 .m 17 31])))))))
 (.seq (.reg [.o 6 (.mv (.c (.bool true)))])
 (.ret))))⟩
theorem ok165:okF Tryz.f165 c165:=okI (by kernel_rfl)
def c166:F':=⟨45,[.t 4],
 .seq (.reg [.o 2 (.box (.t 0)),
 .o 3 (.box (.t 1)),
 .o 4 (.mv (.c (.bool false)))])
 (.seq (.reg [.f 5 0 2,
 .l 6 5,
 .f 7 0 3,
 .l 8 7,
 .b 9 .eql 6 8,
 .m 10 9,
 .v 11 10 true (.fa 1 (.t 2)),
 .v 12 10 true (.ld none (.t 11)),
 .v 13 10 true (.fa 1 (.t 3)),
 .v 14 10 true (.ld none (.t 13)),
 .v 15 10 true (.bin .eql (.t 12) (.t 14)),
 .y 16 10 15,
 .m 17 16,
 .v 18 17 true (.fa 2 (.t 2)),
 .v 19 17 true (.ld none (.t 18)),
 .v 20 17 true (.fa 2 (.t 3)),
 .v 21 17 true (.ld none (.t 20)),
 .v 22 17 true (.bin .eql (.t 19) (.t 21)),
 .y 23 17 22,
 .m 24 23,
 .v 25 24 true (.fa 3 (.t 2)),
 .v 26 24 true (.ld (some 2) (.t 25)),
 .v 27 24 true (.fa 3 (.t 3)),
 .v 28 24 true (.ld (some 2) (.t 27)),
 .v 29 24 true (.ex (.eqs false 2 [(0,.i),(1,.i)] (.t 26) (.t 28))),
 .y 30 24 29,
 .m 31 30,
 .v 32 31 true (.fa 5 (.t 2)),
 .v 33 31 true (.ld none (.t 32)),
 .v 34 31 true (.fa 5 (.t 3)),
 .v 35 31 true (.ld none (.t 34)),
 .v 36 31 true (.bin .eql (.t 33) (.t 35)),
 .y 37 31 36,
 .m 38 37,
 .v 39 38 true (.fa 6 (.t 2)),
 .v 40 38 true (.ld none (.t 39)),
 .v 41 38 true (.fa 6 (.t 3)),
 .v 42 38 true (.ld none (.t 41)),
 .v 43 38 true (.call (.f 123) [(.t 40),(.t 42)]),
 .y 44 38 43,
 .m 4 44])
 (.ret))⟩
theorem ok166:okF Tryz.f166 c166:=okI (by kernel_rfl)
def c167:F':=cmp Tryz.f167
theorem ok167:okF Tryz.f167 c167:=okI (by kernel_rfl)
def c168:F':=⟨5,[.cell 2 (some 25)],
 .seq (.reg [.o 1 (.box (.t 0)),
 .o 2 (.new zP)])
 (.seq (.reg [.j 3 7 1,
 .o 4 (.build zP [(0,0,1,(.c (.int .i64 2))),(2,9,7,(.t 3))]),
 .s 25 2 4])
 (.ret))⟩
theorem ok168:okF Tryz.f168 c168:=okI (by kernel_rfl)
def c169:F':=⟨19,[.t 4],
 .seq (.reg [.o 4 (.mv (.c (.int .i64 0)))])
 (.seq (.seq (.reg [.m 6 0,
 .o 7 (.len false (.t 6)),
 .o 8 (.mv (.c (.int .i64 0)))])
 (.block 0 (.loop (.seq (.reg [.b 9 .lss 8 7])
 (.seq (.cond (.t 9)
 (.skip)
 (.exit 0))
 (.seq (.block 1 (.seq (.reg [.m 10 8,
 .m 5 10])
 (.seq (.reg [.m 11 1,
 .m 12 0,
 .m 13 5,
 .i 14 4 12 13,
 .j 15 4 14,
 .o 16 (.call (.t 11) [(.t 15)])])
 (.cond (.t 16)
 (.seq (.reg [.m 17 5,
 .m 4 17])
 (.ret))
 (.skip)))))
 (.reg [.u 18 .add 8 1,
 .m 8 18])))))))
 (.seq (.reg [.o 4 (.mv (.c (.int .i64 (-1))))])
 (.ret)))⟩
theorem ok169:okF Tryz.f169 c169:=okI (by kernel_rfl)
def c170:F':=cmp Tryz.f170
theorem ok170:okF Tryz.f170 c170:=okI (by kernel_rfl)
def c171:F':=cmp Tryz.f171
theorem ok171:okF Tryz.f171 c171:=okI (by kernel_rfl)
def c172:F':=cmp Tryz.f172
theorem ok172:okF Tryz.f172 c172:=okI (by kernel_rfl)
def c173:F':=⟨19,[.t 4],
 .seq (.reg [.o 4 (.mv (.c (.int .i64 0)))])
 (.seq (.seq (.reg [.m 6 0,
 .o 7 (.len false (.t 6)),
 .o 8 (.mv (.c (.int .i64 0)))])
 (.block 0 (.loop (.seq (.reg [.b 9 .lss 8 7])
 (.seq (.cond (.t 9)
 (.skip)
 (.exit 0))
 (.seq (.block 1 (.seq (.reg [.m 10 8,
 .m 5 10])
 (.seq (.reg [.m 11 1,
 .m 12 0,
 .m 13 5,
 .i 14 1 12 13,
 .l 15 14,
 .o 16 (.call (.t 11) [(.t 15)])])
 (.cond (.t 16)
 (.seq (.reg [.m 17 5,
 .m 4 17])
 (.ret))
 (.skip)))))
 (.reg [.u 18 .add 8 1,
 .m 8 18])))))))
 (.seq (.reg [.o 4 (.mv (.c (.int .i64 (-1))))])
 (.ret)))⟩
theorem ok173:okF Tryz.f173 c173:=okI (by kernel_rfl)
def c174:F':=⟨37,[.t 4],
 .seq (.reg [.o 2 (.box (.t 0)),
 .o 4 (.mv (.c (.int .i64 0)))])
 (.seq (.seq (.draw [⟨.j 7 25 2,false,none,false,[],0,0⟩,
 ⟨.o 8 (.call (.f 200) [(.t 7)]),true,none,false,[0],0,0⟩,
 ⟨.j 9 25 2,false,none,true,[],0,1⟩,
 ⟨.o 10 (.call (.f 201) [(.t 9)]),true,none,false,[2,1,0],1,1⟩,
 ⟨.b 11 .add 8 10,false,none,false,[3,2,1,0],2,2⟩,
 ⟨.m 12 1,false,none,false,[],0,2⟩,
 ⟨.b 13 .gtr 11 12,false,none,false,[4,5,3,2,1,0],2,2⟩] [])
 (.cond (.t 13)
 (.seq (.reg [.o 4 (.mv (.c (.int .i64 (-1))))])
 (.ret))
 (.skip)))
 (.seq (.reg [.m 14 1,
 .j 15 25 2,
 .o 16 (.call (.f 200) [(.t 15)]),
 .b 17 .sub 14 16,
 .m 1 17])
 (.seq (.reg [.j 18 25 2,
 .o 19 (.call (.f 193) [(.t 18)]),
 .m 5 19])
 (.seq (.seq (.reg [.o 6 (.mv (.c (.int .i64 0)))])
 (.block 0 (.loop (.seq (.seq (.reg [.m 20 6,
 .m 21 5,
 .o 22 (.len false (.t 21)),
 .b 23 .lss 20 22,
 .m 24 23,
 .v 25 24 true (.mv (.t 1)),
 .v 26 24 true (.bin .geq (.t 25) (.c (.int .i64 0))),
 .y 27 24 26])
 (.cond (.t 27)
 (.skip)
 (.exit 0)))
 (.seq (.block 1 (.reg [.m 30 5,
 .m 31 6,
 .i 32 25 30 31,
 .j 33 25 32,
 .m 34 1,
 .o 35 (.call (.f 174) [(.t 33),(.t 34)]),
 .m 1 35]))
 (.reg [.m 28 6,
 .u 29 .add 28 1,
 .m 6 29]))))))
 (.seq (.reg [.m 36 1,
 .m 4 36])
 (.ret))))))⟩
theorem ok174:okF Tryz.f174 c174:=okI (by kernel_rfl)
noncomputable def c177:F':=⟨31,[.cell 7 none],
 .seq (.reg [.o 5 (.box (.t 0)),
 .o 6 (.box (.t 1)),
 .o 7 (.new (.bool false))])
 (.seq (.draw [⟨.l 9 2,false,none,true,[],0,1⟩,
 ⟨.j 10 25 5,false,none,false,[],0,0⟩,
 ⟨.o 11 (.call (.f 178) [(.t 10)]),true,none,false,[1],0,0⟩,
 ⟨.b 12 .add 9 11,false,none,false,[0,2,1],1,1⟩,
 ⟨.s 1 2 12,true,none,false,[3,0,2,1],1,1⟩] [])
 (.seq (.reg [.l 13 3,
 .l 14 6,
 .o 15 (.ex (.mm true (.t 13) (.t 14))),
 .s 1 3 15])
 (.seq (.seq (.reg [.l 16 2,
 .u 17 .gtr 16 2000,
 .m 18 17,
 .v 19 18 false (.ld none (.t 3)),
 .v 20 18 false (.bin .gtr (.t 19) (.c (.int .i64 60))),
 .z 21 18 20])
 (.cond (.t 21)
 (.seq (.reg [.n (.sto 1 (.t 7) (.c (.bool false)))])
 (.ret))
 (.skip)))
 (.seq (.seq (.reg [.j 22 25 5,
 .o 23 (.call (.f 179) [(.t 22)])])
 (.block 0 (.rf (.t 23) [24] (rfAt Tryz.f177 0).1 (rfAt Tryz.f177 0).2
 (.reg [.o 8 (.new zP),
 .s 25 8 24])
 (.block 1 (.seq (.reg [.l 25 4,
 .j 26 25 8,
 .l 27 6,
 .u 28 .add 27 1,
 .o 29 (.call (.t 25) [(.t 26),(.t 28)]),
 .o 30 (.un .not (.t 29))])
 (.cond (.t 30)
 (.seq (.reg [.n (.sto 1 (.t 7) (.c (.bool false)))])
 (.ret))
 (.skip))))
 31 [24,4,8,6,27,25,26,28,29,30,7])))
 (.seq (.reg [.n (.sto 1 (.t 7) (.c (.bool true)))])
 (.ret))))))⟩
theorem ok177:okF Tryz.f177 c177:=okI (by kernel_rfl)
def c178:F':=⟨24,[.t 2],
 .seq (.reg [.o 1 (.box (.t 0)),
 .o 2 (.mv (.c (.int .i64 0)))])
 (.seq (.seq (.reg [.f 3 0 1,
 .l 4 3])
 (.block 0 (.seq (.reg [.u 6 .eql 4 1,
 .m 5 6])
 (.cond (.t 5)
 (.seq (.reg [.f 7 1 1,
 .f 8 0 7,
 .l 9 8,
 .o 10 (.len false (.t 9)),
 .o 11 (.bin .add (.c (.int .i64 1)) (.t 10)),
 .m 2 11])
 (.ret))
 (.seq (.reg [.u 13 .eql 4 2,
 .m 12 13])
 (.cond (.t 12)
 (.seq (.reg [.f 14 9 1,
 .f 15 3 14,
 .l 16 15,
 .o 17 (.len false (.t 16)),
 .o 18 (.bin .add (.c (.int .i64 1)) (.t 17)),
 .f 19 9 1,
 .f 20 5 19,
 .l 21 20,
 .o 22 (.len false (.t 21)),
 .b 23 .add 18 22,
 .m 2 23])
 (.ret))
 (.skip)))))))
 (.seq (.reg [.o 2 (.mv (.c (.int .i64 1)))])
 (.ret)))⟩
theorem ok178:okF Tryz.f178 c178:=okI (by kernel_rfl)
def c179:F':=⟨4,[.t 2],
 .seq (.reg [.o 1 (.box (.t 0)),
 .o 2 (.mv (.c .nilfn))])
 (.seq (.reg [.o 3 (.mkf 202 [] [(.t 1)]),
 .m 2 3])
 (.ret))⟩
theorem ok179:okF Tryz.f179 c179:=okI (by kernel_rfl)
def c180:F':=⟨103,[.t 2],
 .seq (.reg [.o 1 (.box (.t 0)),
 .o 2 (.mv (.c (.bool false)))])
 (.seq (.reg [.f 8 0 1,
 .l 9 8,
 .o 10 (.call (.f 208) [(.t 9)]),
 .m 7 10,
 .e 11 0 7,
 .e 12 1 7,
 .m 3 11,
 .m 4 12])
 (.seq (.seq (.reg [.f 13 0 1,
 .l 14 13,
 .o 15 (.call (.f 209) [(.t 14),(.c (.int .i64 1)),(.c (.int .i64 11))]),
 .o 16 (.un .not (.t 15)),
 .m 17 16,
 .v 18 17 false (.fa 6 (.t 1)),
 .v 19 17 false (.ld none (.t 18)),
 .v 20 17 false (.len false (.t 19)),
 .v 21 17 false (.mv (.t 3)),
 .v 22 17 false (.mv (.t 4)),
 .v 23 17 false (.call (.f 209) [(.t 20),(.t 21),(.t 22)]),
 .v 24 17 false (.un .not (.t 23)),
 .z 25 17 24])
 (.cond (.t 25)
 (.seq (.reg [.o 2 (.mv (.c (.bool false)))])
 (.ret))
 (.skip)))
 (.seq (.reg [.j 26 7 1,
 .o 5 (.new zX),
 .s 7 5 26])
 (.seq (.reg [.f 27 0 5,
 .n (.sto 1 (.t 27) (.c (.int .i64 0))),
 .f 28 6 5,
 .n (.sto 1 (.t 28) (.c (.sl true [])))])
 (.seq (.reg [.o 6 (.mv (.c (.bool true)))])
 (.seq (.seq (.reg [.f 29 0 1,
 .l 30 29])
 (.block 0 (.seq (.reg [.u 32 .eql 30 1,
 .m 31 32])
 (.cond (.t 31)
 (.seq (.reg [.f 33 2 1,
 .l 34 33,
 .o 35 (.call (.f 209) [(.t 34),(.c (.int .i64 0)),(.c (.int .i64 2147483647))]),
 .m 6 35])
 (.reg [.f 36 2 5,
 .n (.sto 1 (.t 36) (.c (.int .i64 0)))]))
 (.seq (.reg [.u 38 .eql 30 2,
 .m 37 38])
 (.cond (.t 37)
 (.seq (.reg [.f 39 3 1,
 .j 40 2 39,
 .o 41 (.call (.f 210) [(.t 40)]),
 .m 42 41,
 .v 43 42 true (.fa 3 (.t 1)),
 .v 44 42 true (.fa 0 (.t 43)),
 .v 45 42 true (.ld none (.t 44)),
 .v 46 42 true (.bin .geq (.t 45) (.c (.int .i64 0))),
 .y 47 42 46,
 .m 6 47])
 (.reg [.o 48 (.build (.agg [(.int .i64 0),(.int .i64 0)]) []),
 .f 49 3 5,
 .s 2 49 48]))
 (.seq (.reg [.u 51 .eql 30 5,
 .m 50 51])
 (.cond (.t 50)
 (.seq (.reg [.f 52 5 1,
 .l 53 52,
 .o 54 (.call (.f 211) [(.t 53)]),
 .m 6 54])
 (.reg [.f 55 5 5,
 .n (.sto 1 (.t 55) (.c (.str ⟨⟨[]⟩⟩)))]))
 (.seq (.seq (.reg [.u 57 .eql 30 6,
 .m 56 57])
 (.cond (.t 56)
 (.skip)
 (.seq (.reg [.u 58 .eql 30 7,
 .m 56 58])
 (.cond (.t 56)
 (.skip)
 (.reg [.u 59 .eql 30 8,
 .m 56 59])))))
 (.cond (.t 56)
 (.seq (.reg [.f 60 5 1,
 .l 61 60,
 .o 62 (.call (.f 57) [(.t 61)]),
 .m 6 62])
 (.reg [.f 63 5 5,
 .n (.sto 1 (.t 63) (.c (.str ⟨⟨[]⟩⟩)))]))
 (.seq (.reg [.u 65 .eql 30 9,
 .m 64 65])
 (.cond (.t 64)
 (.seq (.reg [.f 66 1 1,
 .l 67 66,
 .u 68 .eql 67 1,
 .m 69 68,
 .v 70 69 false (.fa 1 (.t 1)),
 .v 71 69 false (.ld none (.t 70)),
 .v 72 69 false (.bin .eql (.t 71) (.c (.int .i64 2))),
 .z 73 69 72,
 .m 6 73])
 (.reg [.f 74 1 5,
 .n (.sto 1 (.t 74) (.c (.int .i64 0)))]))
 (.seq (.reg [.u 76 .eql 30 10,
 .m 75 76])
 (.cond (.t 75)
 (.seq (.reg [.f 77 1 1,
 .l 78 77,
 .o 79 (.call (.f 209) [(.t 78),(.c (.int .i64 3)),(.c (.int .i64 18))]),
 .m 6 79])
 (.reg [.f 80 1 5,
 .n (.sto 1 (.t 80) (.c (.int .i64 0)))]))
 (.skip)))))))))))))))
 (.seq (.reg [.m 81 6,
 .m 82 81,
 .v 83 82 true (.fa 1 (.t 5)),
 .v 84 82 true (.ld none (.t 83)),
 .v 85 82 true (.bin .eql (.t 84) (.c (.int .i64 0))),
 .y 86 82 85,
 .m 87 86,
 .v 88 87 true (.fa 2 (.t 5)),
 .v 89 87 true (.ld none (.t 88)),
 .v 90 87 true (.bin .eql (.t 89) (.c (.int .i64 0))),
 .y 91 87 90,
 .m 92 91,
 .v 93 92 true (.fa 3 (.t 5)),
 .v 94 92 true (.ld (some 2) (.t 93)),
 .v 95 92 true (.build (.agg [(.int .i64 0),(.int .i64 0)]) []),
 .v 96 92 true (.ex (.eqs false 2 [(0,.i),(1,.i)] (.t 94) (.t 95))),
 .y 97 92 96,
 .m 98 97,
 .v 99 98 true (.fa 5 (.t 5)),
 .v 100 98 true (.ld none (.t 99)),
 .v 101 98 true (.bin .eql (.t 100) (.c (.str ⟨⟨[]⟩⟩))),
 .y 102 98 101,
 .m 2 102])
 (.ret))))))))⟩
theorem ok180:okF Tryz.f180 c180:=okI (by kernel_rfl)
def c182:F':=⟨109,[.t 2],
 .seq (.reg [.o 1 (.box (.t 0)),
 .o 2 (.mv (.c (.bool false)))])
 (.seq (.reg [.o 9 (.build (.agg [(.int .i64 0),(.int .i64 0)]) [(0,0,1,(.c (.int .i64 1))),(1,1,1,(.c (.int .i64 1)))]),
 .o 10 (.build (.agg [(.int .i64 0),(.int .i64 0)]) []),
 .o 11 (.build (.agg [(.int .i64 0),(.int .i64 0)]) []),
 .o 12 (.build (.agg [(.int .i64 0),(.int .i64 0)]) []),
 .o 3 (.new (.agg [(.int .i64 0),(.int .i64 0)])),
 .o 4 (.new (.agg [(.int .i64 0),(.int .i64 0)])),
 .o 5 (.new (.agg [(.int .i64 0),(.int .i64 0)])),
 .o 6 (.new (.agg [(.int .i64 0),(.int .i64 0)])),
 .s 2 3 9,
 .s 2 4 10,
 .s 2 5 11,
 .s 2 6 12])
 (.seq (.reg [.o 7 (.mv (.c (.bool false))),
 .o 8 (.mv (.c (.bool false)))])
 (.seq (.seq (.reg [.f 13 0 1,
 .l 14 13])
 (.block 0 (.seq (.reg [.u 16 .eql 14 1,
 .m 15 16])
 (.cond (.t 15)
 (.reg [.o 17 (.build (.agg [(.int .i64 0),(.int .i64 0)]) [(0,0,1,(.c (.int .i64 1))),(1,1,1,(.c (.int .i64 (-1))))]),
 .s 2 3 17,
 .o 7 (.mv (.c (.bool true))),
 .o 8 (.mv (.c (.bool true)))])
 (.seq (.reg [.u 19 .eql 14 2,
 .m 18 19])
 (.cond (.t 18)
 (.reg [.o 20 (.build (.agg [(.int .i64 0),(.int .i64 0)]) [(0,0,1,(.c (.int .i64 1))),(1,1,1,(.c (.int .i64 (-1))))]),
 .o 21 (.build (.agg [(.int .i64 0),(.int .i64 0)]) [(0,0,1,(.c (.int .i64 2))),(1,1,1,(.c (.int .i64 8)))]),
 .s 2 3 20,
 .s 2 4 21,
 .o 7 (.mv (.c (.bool true))),
 .o 8 (.mv (.c (.bool true)))])
 (.seq (.reg [.u 23 .eql 14 3,
 .m 22 23])
 (.cond (.t 22)
 (.reg [.o 24 (.build (.agg [(.int .i64 0),(.int .i64 0)]) [(0,0,1,(.c (.int .i64 1))),(1,1,1,(.c (.int .i64 (-1))))]),
 .s 2 4 24])
 (.seq (.reg [.u 26 .eql 14 4,
 .m 25 26])
 (.cond (.t 25)
 (.reg [.o 27 (.build (.agg [(.int .i64 0),(.int .i64 0)]) [(0,0,1,(.c (.int .i64 1))),(1,1,1,(.c (.int .i64 1)))]),
 .o 28 (.build (.agg [(.int .i64 0),(.int .i64 0)]) [(0,0,1,(.c (.int .i64 0))),(1,1,1,(.c (.int .i64 8)))]),
 .s 2 5 27,
 .s 2 6 28])
 (.seq (.reg [.o 2 (.mv (.c (.bool false)))])
 (.ret))))))))))))
 (.seq (.seq (.reg [.j 29 2 3,
 .f 30 3 1,
 .l 31 30,
 .o 32 (.len false (.t 31)),
 .o 33 (.call (.f 212) [(.t 29),(.t 32)]),
 .o 34 (.un .not (.t 33)),
 .m 35 34,
 .v 36 35 false (.ld (some 2) (.t 4)),
 .v 37 35 false (.fa 4 (.t 1)),
 .v 38 35 false (.ld none (.t 37)),
 .v 39 35 false (.len false (.t 38)),
 .v 40 35 false (.call (.f 212) [(.t 36),(.t 39)]),
 .v 41 35 false (.un .not (.t 40)),
 .z 42 35 41,
 .m 43 42,
 .v 44 43 false (.ld (some 2) (.t 5)),
 .v 45 43 false (.fa 6 (.t 1)),
 .v 46 43 false (.ld none (.t 45)),
 .v 47 43 false (.len false (.t 46)),
 .v 48 43 false (.call (.f 212) [(.t 44),(.t 47)]),
 .v 49 43 false (.un .not (.t 48)),
 .z 50 43 49,
 .m 51 50,
 .v 52 51 false (.ld (some 2) (.t 6)),
 .v 53 51 false (.fa 5 (.t 1)),
 .v 54 51 false (.ld none (.t 53)),
 .v 55 51 false (.len false (.t 54)),
 .v 56 51 false (.call (.f 212) [(.t 52),(.t 55)]),
 .v 57 51 false (.un .not (.t 56)),
 .z 58 51 57,
 .m 59 58,
 .v 60 59 false (.fa 3 (.t 1)),
 .v 61 59 false (.ld none (.t 60)),
 .v 62 59 false (.call (.f 213) [(.t 61)]),
 .v 63 59 false (.un .not (.t 62)),
 .z 64 59 63])
 (.cond (.t 64)
 (.seq (.reg [.o 2 (.mv (.c (.bool false)))])
 (.ret))
 (.skip)))
 (.seq (.seq (.reg [.f 65 1 1,
 .l 66 65,
 .m 67 66,
 .v 68 67 true (.mv (.t 8)),
 .v 69 67 true (.un .not (.t 68)),
 .y 70 67 69,
 .m 71 70,
 .v 72 71 false (.mv (.t 7)),
 .v 73 71 false (.mv (.t 72)),
 .v 74 73 true (.fa 2 (.t 1)),
 .v 75 73 true (.ld none (.t 74)),
 .v 76 73 true (.call (.f 209) [(.t 75),(.c (.int .i64 1)),(.c (.int .i64 3))]),
 .v 77 73 true (.un .not (.t 76)),
 .v 78 71 false (.pick (.t 73) (.t 77) (.c (.bool false))),
 .z 79 71 78,
 .m 80 79,
 .v 81 80 false (.fa 0 (.t 1)),
 .v 82 80 false (.ld none (.t 81)),
 .v 83 80 false (.bin .eql (.t 82) (.c (.int .i64 3))),
 .v 84 80 false (.mv (.t 83)),
 .v 85 84 true (.fa 2 (.t 1)),
 .v 86 84 true (.ld none (.t 85)),
 .v 87 84 true (.bin .neq (.t 86) (.c (.int .i64 0))),
 .v 88 80 false (.pick (.t 84) (.t 87) (.c (.bool false))),
 .z 89 80 88,
 .m 90 89,
 .v 91 90 false (.fa 2 (.t 1)),
 .v 92 90 false (.ld none (.t 91)),
 .v 93 90 false (.call (.f 209) [(.t 92),(.c (.int .i64 0)),(.c (.int .i64 3))]),
 .v 94 90 false (.un .not (.t 93)),
 .z 95 90 94])
 (.cond (.t 95)
 (.seq (.reg [.o 2 (.mv (.c (.bool false)))])
 (.ret))
 (.skip)))
 (.seq (.seq (.reg [.f 96 0 1,
 .l 97 96,
 .u 98 .eql 97 2,
 .m 99 98,
 .v 100 99 true (.fa 4 (.t 1)),
 .v 101 99 true (.ld none (.t 100)),
 .v 102 99 true (.len false (.t 101)),
 .v 103 99 true (.bin .rem (.t 102) (.c (.int .i64 2))),
 .v 104 99 true (.bin .neq (.t 103) (.c (.int .i64 0))),
 .y 105 99 104])
 (.cond (.t 105)
 (.seq (.reg [.o 2 (.mv (.c (.bool false)))])
 (.ret))
 (.skip)))
 (.seq (.reg [.f 106 5 1,
 .l 107 106,
 .o 108 (.call (.f 214) [(.t 107)]),
 .m 2 108])
 (.ret))))))))⟩
theorem ok182:okF Tryz.f182 c182:=okI (by kernel_rfl)
def c183:F':=⟨122,[.t 2],
 .seq (.reg [.o 1 (.box (.t 0)),
 .o 2 (.mv (.c (.bool false)))])
 (.seq (.reg [.o 3 (.new (.agg [(.int .i64 0),(.int .i64 0)])),
 .o 4 (.new (.agg [(.int .i64 0),(.int .i64 0)])),
 .o 5 (.new (.agg [(.int .i64 0),(.int .i64 0)])),
 .o 6 (.new (.agg [(.int .i64 0),(.int .i64 0)])),
 .o 7 (.new (.agg [(.int .i64 0),(.int .i64 0)]))])
 (.seq (.reg [.o 8 (.mv (.c (.bool false)))])
 (.seq (.seq (.reg [.f 9 1 1,
 .l 10 9])
 (.block 0 (.seq (.reg [.u 12 .eql 10 1,
 .m 11 12])
 (.cond (.t 11)
 (.skip)
 (.seq (.reg [.u 14 .eql 10 2,
 .m 13 14])
 (.cond (.t 13)
 (.reg [.o 15 (.build (.agg [(.int .i64 0),(.int .i64 0)]) [(0,0,1,(.c (.int .i64 1))),(1,1,1,(.c (.int .i64 (-1))))]),
 .o 16 (.build (.agg [(.int .i64 0),(.int .i64 0)]) [(0,0,1,(.c (.int .i64 1))),(1,1,1,(.c (.int .i64 1)))]),
 .s 2 3 15,
 .s 2 4 16])
 (.seq (.reg [.u 18 .eql 10 3,
 .m 17 18])
 (.cond (.t 17)
 (.reg [.o 19 (.build (.agg [(.int .i64 0),(.int .i64 0)]) [(0,0,1,(.c (.int .i64 1))),(1,1,1,(.c (.int .i64 1)))]),
 .s 2 4 19])
 (.seq (.reg [.u 21 .eql 10 4,
 .m 20 21])
 (.cond (.t 20)
 (.reg [.o 22 (.build (.agg [(.int .i64 0),(.int .i64 0)]) [(0,0,1,(.c (.int .i64 1))),(1,1,1,(.c (.int .i64 1)))]),
 .o 23 (.build (.agg [(.int .i64 0),(.int .i64 0)]) [(0,0,1,(.c (.int .i64 1))),(1,1,1,(.c (.int .i64 2)))]),
 .s 2 4 22,
 .s 2 7 23])
 (.seq (.reg [.u 25 .eql 10 5,
 .m 24 25])
 (.cond (.t 24)
 (.reg [.o 26 (.build (.agg [(.int .i64 0),(.int .i64 0)]) [(0,0,1,(.c (.int .i64 1))),(1,1,1,(.c (.int .i64 1)))]),
 .o 27 (.build (.agg [(.int .i64 0),(.int .i64 0)]) [(0,0,1,(.c (.int .i64 1))),(1,1,1,(.c (.int .i64 (-1))))]),
 .o 28 (.build (.agg [(.int .i64 0),(.int .i64 0)]) [(0,0,1,(.c (.int .i64 1))),(1,1,1,(.c (.int .i64 1)))]),
 .s 2 3 26,
 .s 2 5 27,
 .s 2 7 28])
 (.seq (.reg [.u 30 .eql 10 6,
 .m 29 30])
 (.cond (.t 29)
 (.reg [.o 31 (.build (.agg [(.int .i64 0),(.int .i64 0)]) [(0,0,1,(.c (.int .i64 0))),(1,1,1,(.c (.int .i64 8)))]),
 .o 8 (.mv (.c (.bool true))),
 .s 2 4 31])
 (.seq (.reg [.u 33 .eql 10 7,
 .m 32 33])
 (.cond (.t 32)
 (.reg [.o 34 (.build (.agg [(.int .i64 0),(.int .i64 0)]) [(0,0,1,(.c (.int .i64 1))),(1,1,1,(.c (.int .i64 (-1))))]),
 .o 35 (.build (.agg [(.int .i64 0),(.int .i64 0)]) [(0,0,1,(.c (.int .i64 1))),(1,1,1,(.c (.int .i64 (-1))))]),
 .s 2 6 34,
 .s 2 7 35])
 (.seq (.reg [.u 37 .eql 10 8,
 .m 36 37])
 (.cond (.t 36)
 (.reg [.o 38 (.build (.agg [(.int .i64 0),(.int .i64 0)]) [(0,0,1,(.c (.int .i64 1))),(1,1,1,(.c (.int .i64 (-1))))]),
 .s 2 7 38])
 (.seq (.reg [.o 2 (.mv (.c (.bool false)))])
 (.ret))))))))))))))))))))
 (.seq (.seq (.reg [.j 39 2 3,
 .f 40 3 1,
 .l 41 40,
 .o 42 (.len false (.t 41)),
 .o 43 (.call (.f 212) [(.t 39),(.t 42)]),
 .o 44 (.un .not (.t 43)),
 .m 45 44,
 .v 46 45 false (.ld (some 2) (.t 4)),
 .v 47 45 false (.fa 4 (.t 1)),
 .v 48 45 false (.ld none (.t 47)),
 .v 49 45 false (.len false (.t 48)),
 .v 50 45 false (.call (.f 212) [(.t 46),(.t 49)]),
 .v 51 45 false (.un .not (.t 50)),
 .z 52 45 51,
 .m 53 52,
 .v 54 53 false (.ld (some 2) (.t 5)),
 .v 55 53 false (.fa 5 (.t 1)),
 .v 56 53 false (.ld none (.t 55)),
 .v 57 53 false (.len false (.t 56)),
 .v 58 53 false (.call (.f 212) [(.t 54),(.t 57)]),
 .v 59 53 false (.un .not (.t 58)),
 .z 60 53 59,
 .m 61 60,
 .v 62 61 false (.ld (some 2) (.t 6)),
 .v 63 61 false (.fa 6 (.t 1)),
 .v 64 61 false (.ld none (.t 63)),
 .v 65 61 false (.len false (.t 64)),
 .v 66 61 false (.call (.f 212) [(.t 62),(.t 65)]),
 .v 67 61 false (.un .not (.t 66)),
 .z 68 61 67,
 .m 69 68,
 .v 70 69 false (.ld (some 2) (.t 7)),
 .v 71 69 false (.fa 7 (.t 1)),
 .v 72 69 false (.ld none (.t 71)),
 .v 73 69 false (.len false (.t 72)),
 .v 74 69 false (.call (.f 212) [(.t 70),(.t 73)]),
 .v 75 69 false (.un .not (.t 74)),
 .z 76 69 75])
 (.cond (.t 76)
 (.seq (.reg [.o 2 (.mv (.c (.bool false)))])
 (.ret))
 (.skip)))
 (.seq (.seq (.reg [.m 77 8,
 .f 78 2 1,
 .l 79 78,
 .o 80 (.bin .neq (.t 79) (.c (.str ⟨⟨[]⟩⟩))),
 .o 81 (.eq .bool true (.t 77) (.t 80)),
 .m 82 81,
 .v 83 82 false (.mv (.t 8)),
 .v 84 82 false (.mv (.t 83)),
 .v 85 84 true (.fa 2 (.t 1)),
 .v 86 84 true (.ld none (.t 85)),
 .v 87 84 true (.call (.f 57) [(.t 86)]),
 .v 88 84 true (.un .not (.t 87)),
 .v 89 82 false (.pick (.t 84) (.t 88) (.c (.bool false))),
 .z 90 82 89,
 .m 91 90,
 .v 92 91 false (.fa 0 (.t 1)),
 .v 93 91 false (.ld none (.t 92)),
 .v 94 91 false (.call (.f 213) [(.t 93)]),
 .v 95 91 false (.un .not (.t 94)),
 .z 96 91 95,
 .m 97 96,
 .v 98 97 false (.fa 3 (.t 1)),
 .v 99 97 false (.ld none (.t 98)),
 .v 100 97 false (.call (.f 215) [(.t 99)]),
 .v 101 97 false (.un .not (.t 100)),
 .z 102 97 101])
 (.cond (.t 102)
 (.seq (.reg [.o 2 (.mv (.c (.bool false)))])
 (.ret))
 (.skip)))
 (.seq (.reg [.f 103 1 1,
 .l 104 103,
 .u 105 .neq 104 4,
 .m 106 105,
 .v 107 106 false (.fa 7 (.t 1)),
 .v 108 106 false (.ld none (.t 107)),
 .v 109 106 false (.ia 8 (.t 108) (.c (.int .i64 0))),
 .v 110 106 false (.fa 1 (.t 109)),
 .v 111 106 false (.ld none (.t 110)),
 .v 112 106 false (.bin .neq (.t 111) (.c (.int .i64 4))),
 .v 113 106 false (.mv (.t 112)),
 .v 114 113 true (.fa 7 (.t 1)),
 .v 115 113 true (.ld none (.t 114)),
 .v 116 113 true (.ia 8 (.t 115) (.c (.int .i64 0))),
 .v 117 113 true (.fa 1 (.t 116)),
 .v 118 113 true (.ld none (.t 117)),
 .v 119 113 true (.bin .neq (.t 118) (.c (.int .i64 5))),
 .v 120 106 false (.pick (.t 113) (.t 119) (.c (.bool false))),
 .z 121 106 120,
 .m 2 121])
 (.ret)))))))⟩
theorem ok183:okF Tryz.f183 c183:=okI (by kernel_rfl)
def c184:F':=⟨19,[.t 4],
 .seq (.reg [.o 4 (.mv (.c (.int .i64 0)))])
 (.seq (.seq (.reg [.m 6 0,
 .o 7 (.len false (.t 6)),
 .o 8 (.mv (.c (.int .i64 0)))])
 (.block 0 (.loop (.seq (.reg [.b 9 .lss 8 7])
 (.seq (.cond (.t 9)
 (.skip)
 (.exit 0))
 (.seq (.block 1 (.seq (.reg [.m 10 8,
 .m 5 10])
 (.seq (.reg [.m 11 1,
 .m 12 0,
 .m 13 5,
 .i 14 1 12 13,
 .l 15 14,
 .b 16 .eql 11 15])
 (.cond (.t 16)
 (.seq (.reg [.m 17 5,
 .m 4 17])
 (.ret))
 (.skip)))))
 (.reg [.u 18 .add 8 1,
 .m 8 18])))))))
 (.seq (.reg [.o 4 (.mv (.c (.int .i64 (-1))))])
 (.ret)))⟩
theorem ok184:okF Tryz.f184 c184:=okI (by kernel_rfl)
def c185:F':=cmp Tryz.f185
theorem ok185:okF Tryz.f185 c185:=okI (by kernel_rfl)
def c186:F':=⟨102,[.cell 6 (some 8)],
 .seq (.reg [.o 4 (.box (.t 1)),
 .o 6 (.new zS)])
 (.seq (.reg [.f 9 0 4,
 .l 10 9,
 .m 11 2,
 .o 12 (.call (.f 218) [(.t 10),(.t 11)]),
 .f 13 0 4,
 .s 1 13 12])
 (.seq (.reg [.m 14 0,
 .f 15 3 4,
 .l 16 15,
 .m 17 2,
 .o 18 (.call (.f 134) [(.t 14),(.t 16),(.t 17),(.c (.bool true))]),
 .f 19 3 4,
 .s 1 19 18])
 (.seq (.seq (.reg [.f 20 1 4,
 .l 21 20])
 (.block 0 (.seq (.reg [.u 41 .eql 21 7,
 .m 40 41])
 (.cond (.t 40)
 (.seq (.reg [.m 42 0,
 .m 43 2,
 .j 44 8 4,
 .o 45 (.call (.f 219) [(.t 44)]),
 .o 46 (.call (.f 157) [(.t 42),(.t 43),(.t 45)]),
 .m 7 46])
 (.seq (.reg [.m 47 0,
 .f 48 6 4,
 .l 49 48,
 .m 50 7,
 .m 51 2,
 .o 52 (.call (.f 220) [(.t 47),(.t 49),(.t 50),(.t 51)]),
 .f 53 6 4,
 .s 1 53 52])
 (.reg [.m 54 0,
 .f 55 7 4,
 .l 56 55,
 .m 57 7,
 .o 58 (.call (.f 156) [(.t 54),(.t 56),(.t 57)]),
 .f 59 7 4,
 .s 1 59 58])))
 (.seq (.reg [.u 61 .eql 21 8,
 .m 60 61])
 (.cond (.t 60)
 (.draw [⟨.m 62 0,false,none,false,[],0,2⟩,
 ⟨.f 63 7 4,false,none,false,[],0,2⟩,
 ⟨.l 64 63,false,none,true,[1],0,2⟩,
 ⟨.m 65 0,false,none,false,[],0,1⟩,
 ⟨.m 66 2,false,none,false,[],0,1⟩,
 ⟨.f 67 7 4,false,none,false,[],0,0⟩,
 ⟨.l 68 67,false,none,false,[5],0,0⟩,
 ⟨.o 69 (.call (.f 158) [(.t 68)]),true,none,false,[6,5],0,0⟩,
 ⟨.o 70 (.call (.f 157) [(.t 65),(.t 66),(.t 69)]),true,none,false,[3,4,7,6,5],1,1⟩,
 ⟨.o 71 (.call (.f 156) [(.t 62),(.t 64),(.t 70)]),true,none,false,[0,2,8,1,3,4,7,6,5],2,2⟩,
 ⟨.f 72 7 4,false,none,false,[9,0,2,8,1,3,4,7,6,5],3,3⟩,
 ⟨.s 1 72 71,true,none,false,[10,9,0,2,8,1,3,4,7,6,5],3,3⟩] [])
 (.seq (.reg [.m 22 0,
 .f 23 4 4,
 .l 24 23,
 .m 25 2,
 .o 26 (.call (.f 134) [(.t 22),(.t 24),(.t 25),(.c (.bool false))]),
 .f 27 4 4,
 .s 1 27 26])
 (.seq (.reg [.m 28 0,
 .f 29 5 4,
 .l 30 29,
 .m 31 2,
 .o 32 (.call (.f 221) [(.t 28),(.t 30),(.t 31)]),
 .f 33 5 4,
 .s 1 33 32])
 (.reg [.m 34 0,
 .f 35 7 4,
 .l 36 35,
 .m 37 2,
 .o 38 (.call (.f 111) [(.t 34),(.t 36),(.t 37)]),
 .f 39 7 4,
 .s 1 39 38])))))))))
 (.seq (.seq (.reg [.f 73 1 4,
 .l 74 73,
 .u 75 .eql 74 6])
 (.cond (.t 75)
 (.seq (.reg [.m 76 0,
 .h 77 76,
 .f 78 3 77,
 .l 79 78,
 .o 80 (.eq .func true (.t 79) (.c .nilfn))])
 (.cond (.t 80)
 (.draw [⟨.m 81 0,false,none,false,[],0,0⟩,
 ⟨.h 82 81,false,none,false,[0],0,0⟩,
 ⟨.f 83 3 82,false,none,false,[1,0],0,0⟩,
 ⟨.l 84 83,false,none,false,[2,1,0],0,0⟩,
 ⟨.f 85 2 4,false,none,false,[],0,0⟩,
 ⟨.l 86 85,false,none,false,[4],0,0⟩,
 ⟨.m 87 2,false,none,false,[],0,0⟩,
 ⟨.o 88 (.call (.t 84) [(.t 86),(.t 87)]),true,none,false,[3,5,6,2,1,0,4],0,0⟩,
 ⟨.f 89 2 4,false,none,false,[7,3,5,6,2,1,0,4],1,1⟩,
 ⟨.s 1 89 88,true,none,false,[8,7,3,5,6,2,1,0,4],1,1⟩] [])
 (.seq (.reg [.m 90 2,
 .f 91 2 4,
 .l 92 91,
 .o 93 (.call (.f 60) [(.t 90),(.t 92)]),
 .m 8 93])
 (.seq (.reg [.m 94 8,
 .o 95 (.eq .ptr true (.t 94) (.c .nilp))])
 (.cond (.t 95)
 (.reg [.m 96 8,
 .h 97 96,
 .f 98 2 97,
 .l 99 98,
 .f 100 2 4,
 .s 1 100 99])
 (.skip))))))
 (.skip)))
 (.seq (.reg [.j 101 8 4,
 .s 8 6 101])
 (.ret))))))⟩
theorem ok186:okF Tryz.f186 c186:=okI (by kernel_rfl)
def c187:F':=⟨26,[],
 .seq (.reg [.l 7 1,
 .o 8 (.len false (.t 7)),
 .o 9 (.mv (.c (.int .i64 0)))])
 (.block 0 (.loop (.seq (.reg [.b 10 .lss 9 8])
 (.seq (.cond (.t 10)
 (.skip)
 (.exit 0))
 (.seq (.block 1 (.seq (.reg [.i 11 8 7 9,
 .j 12 8 11,
 .o 4 (.new zS),
 .s 8 4 12])
 (.seq (.reg [.f 13 0 4,
 .l 14 13,
 .o 15 (.len false (.t 14)),
 .o 16 (.mv (.c (.int .i64 0)))])
 (.block 2 (.loop (.seq (.reg [.b 17 .lss 16 15])
 (.seq (.cond (.t 17)
 (.skip)
 (.exit 2))
 (.seq (.block 3 (.seq (.reg [.i 18 1 14 16,
 .l 19 18,
 .m 6 19])
 (.seq (.reg [.m 20 0,
 .m 21 6,
 .o 22 (.call (.t 20) [(.t 21)]),
 .o 23 (.un .not (.t 22))])
 (.cond (.t 23)
 (.ret)
 (.skip)))))
 (.reg [.u 24 .add 16 1,
 .m 16 24])))))))))
 (.reg [.u 25 .add 9 1,
 .m 9 25]))))))⟩
theorem ok187:okF Tryz.f187 c187:=okI (by kernel_rfl)
def c188:F':=⟨23,[.t 2],
 .seq (.reg [.o 1 (.box (.t 0)),
 .o 2 (.mv (.c (.int .i64 0)))])
 (.seq (.reg [.o 3 (.mv (.c (.int .i64 0)))])
 (.seq (.reg [.j 6 25 1,
 .o 7 (.call (.f 193) [(.t 6)]),
 .m 4 7])
 (.seq (.seq (.reg [.o 5 (.mv (.c (.int .i64 0)))])
 (.block 0 (.loop (.seq (.seq (.reg [.m 8 5,
 .m 9 4,
 .o 10 (.len false (.t 9)),
 .b 11 .lss 8 10])
 (.cond (.t 11)
 (.skip)
 (.exit 0)))
 (.seq (.block 1 (.reg [.m 14 3,
 .m 15 4,
 .m 16 5,
 .i 17 25 15 16,
 .j 18 25 17,
 .o 19 (.call (.f 188) [(.t 18)]),
 .o 20 (.ex (.mm true (.t 14) (.t 19))),
 .m 3 20]))
 (.reg [.m 12 5,
 .u 13 .add 12 1,
 .m 5 13]))))))
 (.seq (.reg [.m 21 3,
 .o 22 (.bin .add (.c (.int .i64 1)) (.t 21)),
 .m 2 22])
 (.ret)))))⟩
theorem ok188:okF Tryz.f188 c188:=okI (by kernel_rfl)
def c193:F':=⟨78,[.t 2],
 .seq (.reg [.o 1 (.box (.t 0)),
 .o 2 (.mv (.c (.sl true [])))])
 (.seq (.seq (.reg [.f 7 0 1,
 .l 8 7])
 (.block 0 (.seq (.reg [.u 10 .eql 8 1,
 .m 9 10])
 (.cond (.t 9)
 (.seq (.reg [.f 11 1 1,
 .j 12 8 11,
 .o 3 (.new zS),
 .s 8 3 12])
 (.seq (.reg [.f 13 3 3,
 .l 14 13,
 .o 15 (.call (.f 228) [(.c (.sl true [])),(.t 14)]),
 .m 4 15])
 (.seq (.reg [.m 16 4,
 .f 17 4 3,
 .l 18 17,
 .o 19 (.call (.f 228) [(.t 16),(.t 18)]),
 .m 4 19])
 (.seq (.seq (.reg [.o 5 (.mv (.c (.int .i64 0)))])
 (.block 1 (.loop (.seq (.seq (.reg [.m 20 5,
 .f 21 5 3,
 .l 22 21,
 .o 23 (.len false (.t 22)),
 .b 24 .lss 20 23])
 (.cond (.t 24)
 (.skip)
 (.exit 1)))
 (.seq (.block 2 (.reg [.m 27 4,
 .f 28 5 3,
 .l 29 28,
 .m 30 5,
 .i 31 2 29 30,
 .j 32 2 31,
 .o 33 (.build zP [(0,0,1,(.c (.int .i64 3))),(3,16,2,(.t 32))]),
 .o 34 (.bsl 25 [(.t 33)]),
 .o 35 (.app 25 408 (.t 27) (.t 34)),
 .m 4 35]))
 (.reg [.m 25 5,
 .u 26 .add 25 1,
 .m 5 26]))))))
 (.seq (.seq (.reg [.o 6 (.mv (.c (.int .i64 0)))])
 (.block 3 (.loop (.seq (.seq (.reg [.m 36 6,
 .f 37 6 3,
 .l 38 37,
 .o 39 (.len false (.t 38)),
 .b 40 .lss 36 39])
 (.cond (.t 40)
 (.skip)
 (.exit 3)))
 (.seq (.block 4 (.reg [.m 43 4,
 .f 44 6 3,
 .l 45 44,
 .m 46 6,
 .i 47 7 45 46,
 .j 48 7 47,
 .o 49 (.build zP [(0,0,1,(.c (.int .i64 2))),(2,9,7,(.t 48))]),
 .o 50 (.bsl 25 [(.t 49)]),
 .o 51 (.app 25 408 (.t 43) (.t 50)),
 .m 4 51]))
 (.reg [.m 41 6,
 .u 42 .add 41 1,
 .m 6 42]))))))
 (.seq (.reg [.m 52 4,
 .f 53 7 3,
 .l 54 53,
 .o 55 (.call (.f 229) [(.t 52),(.t 54)]),
 .m 2 55])
 (.ret)))))))
 (.seq (.reg [.u 57 .eql 8 2,
 .m 56 57])
 (.cond (.t 56)
 (.seq (.draw [⟨.f 58 9 1,false,none,false,[],0,0⟩,
 ⟨.f 59 4 58,false,none,false,[0],0,0⟩,
 ⟨.l 60 59,false,none,false,[1,0],0,0⟩,
 ⟨.o 61 (.call (.f 228) [(.c (.sl true [])),(.t 60)]),true,none,false,[2,1,0],0,0⟩,
 ⟨.f 62 9 1,false,none,false,[],0,1⟩,
 ⟨.f 63 6 62,false,none,false,[4],0,1⟩,
 ⟨.l 64 63,false,none,true,[5,4],0,1⟩,
 ⟨.o 65 (.call (.f 229) [(.t 61),(.t 64)]),true,none,false,[6,3,5,4,2,1,0],1,1⟩,
 ⟨.m 2 65,false,none,false,[7,6,3,5,4,2,1,0],2,2⟩] [])
 (.ret))
 (.seq (.reg [.u 67 .eql 8 3,
 .m 66 67])
 (.cond (.t 66)
 (.seq (.reg [.f 68 16 1,
 .f 69 1 68,
 .l 70 69,
 .o 71 (.call (.f 228) [(.c (.sl true [])),(.t 70)]),
 .m 2 71])
 (.ret))
 (.seq (.reg [.u 73 .eql 8 4,
 .m 72 73])
 (.cond (.t 72)
 (.seq (.reg [.f 74 18 1,
 .f 75 6 74,
 .l 76 75,
 .o 77 (.call (.f 228) [(.c (.sl true [])),(.t 76)]),
 .m 2 77])
 (.ret))
 (.skip)))))))))))
 (.seq (.reg [.o 2 (.mv (.c (.sl true [])))])
 (.ret)))⟩
theorem ok193:okF Tryz.f193 c193:=okI (by kernel_rfl)
def c195:F':=⟨239,[.t 4],
 .seq (.reg [.o 2 (.box (.t 0)),
 .o 3 (.box (.t 1)),
 .o 4 (.mv (.c (.bool false)))])
 (.seq (.draw [⟨.f 16 1 2,false,none,false,[],0,0⟩,
 ⟨.j 17 8 16,false,none,false,[0],0,0⟩,
 ⟨.f 18 1 3,false,none,false,[],0,1⟩,
 ⟨.j 19 8 18,false,none,true,[2],0,1⟩,
 ⟨.o 5 (.new zS),false,(some 0),true,[],0,0⟩,
 ⟨.o 6 (.new zS),false,(some 1),true,[],0,0⟩,
 ⟨.s 8 5 17,true,none,false,[1,4,5,0],0,0⟩,
 ⟨.s 8 6 19,true,none,false,[3,6,2,1,4,5,0],1,1⟩] [zS,zS])
 (.seq (.draw [⟨.f 20 9 2,false,none,false,[],0,0⟩,
 ⟨.j 21 7 20,false,none,false,[0],0,0⟩,
 ⟨.f 22 9 3,false,none,false,[],0,1⟩,
 ⟨.j 23 7 22,false,none,true,[2],0,1⟩,
 ⟨.o 7 (.new zD),false,(some 0),true,[],0,0⟩,
 ⟨.o 8 (.new zD),false,(some 1),true,[],0,0⟩,
 ⟨.s 7 7 21,true,none,false,[1,4,5,0],0,0⟩,
 ⟨.s 7 8 23,true,none,false,[3,6,2,1,4,5,0],1,1⟩] [zD,zD])
 (.seq (.seq (.reg [.f 24 0 2,
 .l 25 24,
 .f 26 0 3,
 .l 27 26,
 .b 28 .neq 25 27,
 .m 29 28,
 .v 30 29 false (.fa 5 (.t 7)),
 .v 31 29 false (.ld none (.t 30)),
 .v 32 29 false (.len false (.t 31)),
 .v 33 29 false (.fa 5 (.t 8)),
 .v 34 29 false (.ld none (.t 33)),
 .v 35 29 false (.len false (.t 34)),
 .v 36 29 false (.bin .neq (.t 32) (.t 35)),
 .z 37 29 36])
 (.cond (.t 37)
 (.seq (.reg [.o 4 (.mv (.c (.bool false)))])
 (.ret))
 (.skip)))
 (.seq (.seq (.reg [.o 9 (.mv (.c (.int .i64 0)))])
 (.block 0 (.loop (.seq (.seq (.reg [.m 38 9,
 .f 39 5 7,
 .l 40 39,
 .o 41 (.len false (.t 40)),
 .b 42 .lss 38 41])
 (.cond (.t 42)
 (.skip)
 (.exit 0)))
 (.seq (.block 1 (.seq (.draw [⟨.f 45 5 7,false,none,false,[],0,0⟩,
 ⟨.l 46 45,false,none,false,[0],0,0⟩,
 ⟨.m 47 9,false,none,false,[],0,0⟩,
 ⟨.i 48 4 46 47,false,none,false,[1,2,0],0,0⟩,
 ⟨.j 49 4 48,false,none,false,[3,1,2,0],0,0⟩,
 ⟨.f 50 5 8,false,none,false,[],0,0⟩,
 ⟨.l 51 50,false,none,false,[5],0,0⟩,
 ⟨.m 52 9,false,none,false,[],0,0⟩,
 ⟨.i 53 4 51 52,false,none,false,[6,7,5],0,0⟩,
 ⟨.j 54 4 53,false,none,false,[8,6,7,5],0,0⟩,
 ⟨.o 55 (.ex (.eqs true 4 [(0,.s),(1,.b),(2,.i),(3,.i)] (.t 49) (.t 54))),false,none,false,[4,9,3,1,2,0,8,6,7,5],0,0⟩] [])
 (.cond (.t 55)
 (.seq (.reg [.o 4 (.mv (.c (.bool false)))])
 (.ret))
 (.skip))))
 (.reg [.m 43 9,
 .u 44 .add 43 1,
 .m 9 44]))))))
 (.seq (.draw [⟨.f 56 18 2,false,none,false,[],0,0⟩,
 ⟨.j 57 7 56,false,none,false,[0],0,0⟩,
 ⟨.f 58 18 3,false,none,false,[],0,1⟩,
 ⟨.j 59 7 58,false,none,true,[2],0,1⟩,
 ⟨.o 10 (.new zX),false,(some 0),true,[],0,0⟩,
 ⟨.o 11 (.new zX),false,(some 1),true,[],0,0⟩,
 ⟨.s 7 10 57,true,none,false,[1,4,5,0],0,0⟩,
 ⟨.s 7 11 59,true,none,false,[3,6,2,1,4,5,0],1,1⟩] [zX,zX])
 (.seq (.reg [.f 60 3 5,
 .l 61 60,
 .o 62 (.len false (.t 61)),
 .f 63 3 6,
 .l 64 63,
 .o 65 (.len false (.t 64)),
 .b 66 .eql 62 65,
 .m 67 66,
 .v 68 67 true (.fa 4 (.t 5)),
 .v 69 67 true (.ld none (.t 68)),
 .v 70 67 true (.len false (.t 69)),
 .v 71 67 true (.fa 4 (.t 6)),
 .v 72 67 true (.ld none (.t 71)),
 .v 73 67 true (.len false (.t 72)),
 .v 74 67 true (.bin .eql (.t 70) (.t 73)),
 .y 75 67 74,
 .m 76 75,
 .v 77 76 true (.fa 5 (.t 5)),
 .v 78 76 true (.ld none (.t 77)),
 .v 79 76 true (.len false (.t 78)),
 .v 80 76 true (.fa 5 (.t 6)),
 .v 81 76 true (.ld none (.t 80)),
 .v 82 76 true (.len false (.t 81)),
 .v 83 76 true (.bin .eql (.t 79) (.t 82)),
 .y 84 76 83,
 .m 85 84,
 .v 86 85 true (.fa 6 (.t 5)),
 .v 87 85 true (.ld none (.t 86)),
 .v 88 85 true (.len false (.t 87)),
 .v 89 85 true (.fa 6 (.t 6)),
 .v 90 85 true (.ld none (.t 89)),
 .v 91 85 true (.len false (.t 90)),
 .v 92 85 true (.bin .eql (.t 88) (.t 91)),
 .y 93 85 92,
 .m 94 93,
 .v 95 94 true (.fa 7 (.t 5)),
 .v 96 94 true (.ld none (.t 95)),
 .v 97 94 true (.len false (.t 96)),
 .v 98 94 true (.fa 7 (.t 6)),
 .v 99 94 true (.ld none (.t 98)),
 .v 100 94 true (.len false (.t 99)),
 .v 101 94 true (.bin .eql (.t 97) (.t 100)),
 .y 102 94 101,
 .m 12 102])
 (.seq (.reg [.m 103 12,
 .m 104 103,
 .v 105 104 true (.fa 4 (.t 7)),
 .v 106 104 true (.ld none (.t 105)),
 .v 107 104 true (.len false (.t 106)),
 .v 108 104 true (.fa 4 (.t 8)),
 .v 109 104 true (.ld none (.t 108)),
 .v 110 104 true (.len false (.t 109)),
 .v 111 104 true (.bin .eql (.t 107) (.t 110)),
 .y 112 104 111,
 .m 113 112,
 .v 114 113 true (.fa 6 (.t 7)),
 .v 115 113 true (.ld none (.t 114)),
 .v 116 113 true (.len false (.t 115)),
 .v 117 113 true (.fa 6 (.t 8)),
 .v 118 113 true (.ld none (.t 117)),
 .v 119 113 true (.len false (.t 118)),
 .v 120 113 true (.bin .eql (.t 116) (.t 119)),
 .y 121 113 120,
 .m 122 121,
 .v 123 122 true (.fa 16 (.t 2)),
 .v 124 122 true (.fa 1 (.t 123)),
 .v 125 122 true (.ld none (.t 124)),
 .v 126 122 true (.len false (.t 125)),
 .v 127 122 true (.fa 16 (.t 3)),
 .v 128 122 true (.fa 1 (.t 127)),
 .v 129 122 true (.ld none (.t 128)),
 .v 130 122 true (.len false (.t 129)),
 .v 131 122 true (.bin .eql (.t 126) (.t 130)),
 .y 132 122 131,
 .m 133 132,
 .v 134 133 true (.fa 6 (.t 10)),
 .v 135 133 true (.ld none (.t 134)),
 .v 136 133 true (.len false (.t 135)),
 .v 137 133 true (.fa 6 (.t 11)),
 .v 138 133 true (.ld none (.t 137)),
 .v 139 133 true (.len false (.t 138)),
 .v 140 133 true (.bin .eql (.t 136) (.t 139)),
 .y 141 133 140,
 .m 12 141])
 (.seq (.reg [.f 142 1 5,
 .l 143 142,
 .f 144 1 6,
 .l 145 144,
 .b 146 .eql 143 145,
 .m 147 146,
 .v 148 147 true (.fa 2 (.t 5)),
 .v 149 147 true (.ld none (.t 148)),
 .v 150 147 true (.fa 2 (.t 6)),
 .v 151 147 true (.ld none (.t 150)),
 .v 152 147 true (.bin .eql (.t 149) (.t 151)),
 .y 153 147 152,
 .m 154 153,
 .v 155 154 true (.fa 0 (.t 5)),
 .v 156 154 true (.ld none (.t 155)),
 .v 157 154 true (.fa 0 (.t 6)),
 .v 158 154 true (.ld none (.t 157)),
 .v 159 154 true (.call (.f 233) [(.t 156),(.t 158)]),
 .y 160 154 159,
 .m 13 160])
 (.seq (.reg [.f 161 0 7,
 .l 162 161,
 .f 163 0 8,
 .l 164 163,
 .b 165 .eql 162 164,
 .m 166 165,
 .v 167 166 true (.fa 1 (.t 7)),
 .v 168 166 true (.ld none (.t 167)),
 .v 169 166 true (.fa 1 (.t 8)),
 .v 170 166 true (.ld none (.t 169)),
 .v 171 166 true (.eq .bool false (.t 168) (.t 170)),
 .y 172 166 171,
 .m 173 172,
 .v 174 173 true (.fa 2 (.t 7)),
 .v 175 173 true (.ld none (.t 174)),
 .v 176 173 true (.fa 2 (.t 8)),
 .v 177 173 true (.ld none (.t 176)),
 .v 178 173 true (.bin .eql (.t 175) (.t 177)),
 .y 179 173 178,
 .m 180 179,
 .v 181 180 true (.fa 3 (.t 7)),
 .v 182 180 true (.ld none (.t 181)),
 .v 183 180 true (.fa 3 (.t 8)),
 .v 184 180 true (.ld none (.t 183)),
 .v 185 180 true (.call (.f 233) [(.t 182),(.t 184)]),
 .y 186 180 185,
 .m 14 186])
 (.seq (.reg [.f 187 0 10,
 .l 188 187,
 .f 189 0 11,
 .l 190 189,
 .b 191 .eql 188 190,
 .m 192 191,
 .v 193 192 true (.fa 1 (.t 10)),
 .v 194 192 true (.ld none (.t 193)),
 .v 195 192 true (.fa 1 (.t 11)),
 .v 196 192 true (.ld none (.t 195)),
 .v 197 192 true (.bin .eql (.t 194) (.t 196)),
 .y 198 192 197,
 .m 199 198,
 .v 200 199 true (.fa 2 (.t 10)),
 .v 201 199 true (.ld none (.t 200)),
 .v 202 199 true (.fa 2 (.t 11)),
 .v 203 199 true (.ld none (.t 202)),
 .v 204 199 true (.bin .eql (.t 201) (.t 203)),
 .y 205 199 204,
 .m 206 205,
 .v 207 206 true (.fa 3 (.t 10)),
 .v 208 206 true (.ld (some 2) (.t 207)),
 .v 209 206 true (.fa 3 (.t 11)),
 .v 210 206 true (.ld (some 2) (.t 209)),
 .v 211 206 true (.ex (.eqs false 2 [(0,.i),(1,.i)] (.t 208) (.t 210))),
 .y 212 206 211,
 .m 213 212,
 .v 214 213 true (.fa 5 (.t 10)),
 .v 215 213 true (.ld none (.t 214)),
 .v 216 213 true (.fa 5 (.t 11)),
 .v 217 213 true (.ld none (.t 216)),
 .v 218 213 true (.bin .eql (.t 215) (.t 217)),
 .y 219 213 218,
 .m 15 219])
 (.seq (.reg [.m 220 12,
 .m 221 220,
 .v 222 221 true (.mv (.t 13)),
 .y 223 221 222,
 .m 224 223,
 .v 225 224 true (.mv (.t 14)),
 .y 226 224 225,
 .m 227 226,
 .v 228 227 true (.fa 16 (.t 2)),
 .v 229 227 true (.fa 0 (.t 228)),
 .v 230 227 true (.ld none (.t 229)),
 .v 231 227 true (.fa 16 (.t 3)),
 .v 232 227 true (.fa 0 (.t 231)),
 .v 233 227 true (.ld none (.t 232)),
 .v 234 227 true (.bin .eql (.t 230) (.t 233)),
 .y 235 227 234,
 .m 236 235,
 .v 237 236 true (.mv (.t 15)),
 .y 238 236 237,
 .m 4 238])
 (.ret))))))))))))⟩
theorem ok195:okF Tryz.f195 c195:=okI (by kernel_rfl)
def c196:F':=cmp Tryz.f196
theorem ok196:okF Tryz.f196 c196:=okI (by kernel_rfl)
set_option maxRecDepth 20000
def c197:F':=cmp Tryz.f197
theorem ok197:okF Tryz.f197 c197:=okI (by kernel_rfl)
def c198:F':=cmp Tryz.f198
theorem ok198:okF Tryz.f198 c198:=okI (by kernel_rfl)
def c199:F':=cmp Tryz.f199
theorem ok199:okF Tryz.f199 c199:=okI (by kernel_rfl)
def c200:F':=⟨24,[.t 2],
 .seq (.reg [.o 1 (.box (.t 0)),
 .o 2 (.mv (.c (.int .i64 0)))])
 (.seq (.seq (.reg [.f 3 0 1,
 .l 4 3])
 (.block 0 (.seq (.reg [.u 6 .eql 4 1,
 .m 5 6])
 (.cond (.t 5)
 (.seq (.reg [.f 7 1 1,
 .f 8 0 7,
 .l 9 8,
 .o 10 (.len false (.t 9)),
 .o 11 (.bin .add (.c (.int .i64 1)) (.t 10)),
 .m 2 11])
 (.ret))
 (.seq (.reg [.u 13 .eql 4 2,
 .m 12 13])
 (.cond (.t 12)
 (.seq (.reg [.f 14 9 1,
 .f 15 3 14,
 .l 16 15,
 .o 17 (.len false (.t 16)),
 .o 18 (.bin .add (.c (.int .i64 1)) (.t 17)),
 .f 19 9 1,
 .f 20 5 19,
 .l 21 20,
 .o 22 (.len false (.t 21)),
 .b 23 .add 18 22,
 .m 2 23])
 (.ret))
 (.skip)))))))
 (.seq (.reg [.o 2 (.mv (.c (.int .i64 1)))])
 (.ret)))⟩
theorem ok200:okF Tryz.f200 c200:=okI (by kernel_rfl)
def c201:F':=⟨50,[.t 2],
 .seq (.reg [.o 1 (.box (.t 0)),
 .o 2 (.mv (.c (.int .i64 0)))])
 (.seq (.seq (.reg [.f 4 0 1,
 .l 5 4])
 (.block 0 (.seq (.reg [.u 7 .eql 5 1,
 .m 6 7])
 (.cond (.t 6)
 (.seq (.reg [.f 8 1 1,
 .j 9 8 8,
 .o 3 (.new zS),
 .s 8 3 9])
 (.seq (.reg [.f 10 3 3,
 .l 11 10,
 .o 12 (.len false (.t 11)),
 .f 13 4 3,
 .l 14 13,
 .o 15 (.len false (.t 14)),
 .b 16 .add 12 15,
 .f 17 5 3,
 .l 18 17,
 .o 19 (.len false (.t 18)),
 .b 20 .add 16 19,
 .f 21 6 3,
 .l 22 21,
 .o 23 (.len false (.t 22)),
 .b 24 .add 20 23,
 .f 25 7 3,
 .l 26 25,
 .o 27 (.len false (.t 26)),
 .b 28 .add 24 27,
 .m 2 28])
 (.ret)))
 (.seq (.reg [.u 30 .eql 5 2,
 .m 29 30])
 (.cond (.t 29)
 (.seq (.reg [.f 31 9 1,
 .f 32 4 31,
 .l 33 32,
 .o 34 (.len false (.t 33)),
 .f 35 9 1,
 .f 36 6 35,
 .l 37 36,
 .o 38 (.len false (.t 37)),
 .b 39 .add 34 38,
 .m 2 39])
 (.ret))
 (.seq (.reg [.u 41 .eql 5 3,
 .m 40 41])
 (.cond (.t 40)
 (.seq (.reg [.f 42 16 1,
 .f 43 1 42,
 .l 44 43,
 .o 45 (.len false (.t 44)),
 .m 2 45])
 (.ret))
 (.skip)))))))))
 (.seq (.reg [.f 46 18 1,
 .f 47 6 46,
 .l 48 47,
 .o 49 (.len false (.t 48)),
 .m 2 49])
 (.ret)))⟩
theorem ok201:okF Tryz.f201 c201:=okI (by kernel_rfl)
def c202:F':=⟨66,[],
 .seq (.reg [.f 4 0 1,
 .l 5 4])
 (.block 0 (.seq (.reg [.u 7 .eql 5 1,
 .m 6 7])
 (.cond (.t 6)
 (.seq (.reg [.f 8 1 1,
 .j 9 8 8,
 .o 3 (.new zS),
 .s 8 3 9])
 (.reg [.f 10 3 3,
 .l 11 10,
 .m 12 0,
 .o 13 (.call (.f 203) [(.t 11),(.f 142),(.t 12)]),
 .m 14 13,
 .v 15 14 true (.fa 4 (.t 3)),
 .v 16 14 true (.ld none (.t 15)),
 .v 17 14 true (.mv (.t 0)),
 .v 18 14 true (.call (.f 203) [(.t 16),(.f 142),(.t 17)]),
 .y 19 14 18,
 .m 20 19,
 .v 21 20 true (.fa 5 (.t 3)),
 .v 22 20 true (.ld none (.t 21)),
 .v 23 20 true (.mv (.t 0)),
 .v 24 20 true (.call (.f 204) [(.t 22),(.f 205),(.t 23)]),
 .y 25 20 24,
 .m 26 25,
 .v 27 26 true (.fa 6 (.t 3)),
 .v 28 26 true (.ld none (.t 27)),
 .v 29 26 true (.mv (.t 0)),
 .v 30 26 true (.call (.f 206) [(.t 28),(.f 168),(.t 29)]),
 .y 31 26 30,
 .m 32 31,
 .v 33 32 true (.fa 7 (.t 3)),
 .v 34 32 true (.ld none (.t 33)),
 .v 35 32 true (.mv (.t 0)),
 .v 36 32 true (.call (.f 207) [(.t 34),(.f 101),(.t 35)]),
 .y 37 32 36]))
 (.seq (.reg [.u 39 .eql 5 2,
 .m 38 39])
 (.cond (.t 38)
 (.reg [.f 40 9 1,
 .f 41 4 40,
 .l 42 41,
 .m 43 0,
 .o 44 (.call (.f 203) [(.t 42),(.f 142),(.t 43)]),
 .m 45 44,
 .v 46 45 true (.fa 9 (.t 1)),
 .v 47 45 true (.fa 6 (.t 46)),
 .v 48 45 true (.ld none (.t 47)),
 .v 49 45 true (.mv (.t 0)),
 .v 50 45 true (.call (.f 207) [(.t 48),(.f 101),(.t 49)]),
 .y 51 45 50])
 (.seq (.reg [.u 53 .eql 5 3,
 .m 52 53])
 (.cond (.t 52)
 (.reg [.f 54 16 1,
 .f 55 1 54,
 .l 56 55,
 .m 57 0,
 .o 58 (.call (.f 203) [(.t 56),(.f 142),(.t 57)])])
 (.seq (.reg [.u 60 .eql 5 4,
 .m 59 60])
 (.cond (.t 59)
 (.reg [.f 61 18 1,
 .f 62 6 61,
 .l 63 62,
 .m 64 0,
 .o 65 (.call (.f 203) [(.t 63),(.f 142),(.t 64)])])
 (.skip))))))))))⟩
theorem ok202:okF Tryz.f202 c202:=okI (by kernel_rfl)
def c203:F':=⟨22,[.t 6],
 .seq (.reg [.o 6 (.mv (.c (.bool false)))])
 (.seq (.seq (.reg [.m 9 0,
 .o 10 (.len false (.t 9)),
 .o 11 (.mv (.c (.int .i64 0)))])
 (.block 0 (.loop (.seq (.reg [.b 12 .lss 11 10])
 (.seq (.cond (.t 12)
 (.skip)
 (.exit 0))
 (.seq (.block 1 (.seq (.reg [.i 13 7 9 11,
 .j 14 7 13,
 .o 8 (.new zX),
 .s 7 8 14])
 (.seq (.reg [.m 15 2,
 .m 16 1,
 .j 17 7 8,
 .o 18 (.call (.t 16) [(.t 17)]),
 .o 19 (.call (.t 15) [(.t 18)]),
 .o 20 (.un .not (.t 19))])
 (.cond (.t 20)
 (.seq (.reg [.o 6 (.mv (.c (.bool false)))])
 (.ret))
 (.skip)))))
 (.reg [.u 21 .add 11 1,
 .m 11 21])))))))
 (.seq (.reg [.o 6 (.mv (.c (.bool true)))])
 (.ret)))⟩
theorem ok203:okF Tryz.f203 c203:=okI (by kernel_rfl)
def c204:F':=⟨22,[.t 6],
 .seq (.reg [.o 6 (.mv (.c (.bool false)))])
 (.seq (.seq (.reg [.m 9 0,
 .o 10 (.len false (.t 9)),
 .o 11 (.mv (.c (.int .i64 0)))])
 (.block 0 (.loop (.seq (.reg [.b 12 .lss 11 10])
 (.seq (.cond (.t 12)
 (.skip)
 (.exit 0))
 (.seq (.block 1 (.seq (.reg [.i 13 2 9 11,
 .j 14 2 13,
 .o 8 (.new zE),
 .s 2 8 14])
 (.seq (.reg [.m 15 2,
 .m 16 1,
 .j 17 2 8,
 .o 18 (.call (.t 16) [(.t 17)]),
 .o 19 (.call (.t 15) [(.t 18)]),
 .o 20 (.un .not (.t 19))])
 (.cond (.t 20)
 (.seq (.reg [.o 6 (.mv (.c (.bool false)))])
 (.ret))
 (.skip)))))
 (.reg [.u 21 .add 11 1,
 .m 11 21])))))))
 (.seq (.reg [.o 6 (.mv (.c (.bool true)))])
 (.ret)))⟩
theorem ok204:okF Tryz.f204 c204:=okI (by kernel_rfl)
def c206:F':=⟨22,[.t 6],
 .seq (.reg [.o 6 (.mv (.c (.bool false)))])
 (.seq (.seq (.reg [.m 9 0,
 .o 10 (.len false (.t 9)),
 .o 11 (.mv (.c (.int .i64 0)))])
 (.block 0 (.loop (.seq (.reg [.b 12 .lss 11 10])
 (.seq (.cond (.t 12)
 (.skip)
 (.exit 0))
 (.seq (.block 1 (.seq (.reg [.i 13 7 9 11,
 .j 14 7 13,
 .o 8 (.new zD),
 .s 7 8 14])
 (.seq (.reg [.m 15 2,
 .m 16 1,
 .j 17 7 8,
 .o 18 (.call (.t 16) [(.t 17)]),
 .o 19 (.call (.t 15) [(.t 18)]),
 .o 20 (.un .not (.t 19))])
 (.cond (.t 20)
 (.seq (.reg [.o 6 (.mv (.c (.bool false)))])
 (.ret))
 (.skip)))))
 (.reg [.u 21 .add 11 1,
 .m 11 21])))))))
 (.seq (.reg [.o 6 (.mv (.c (.bool true)))])
 (.ret)))⟩
theorem ok206:okF Tryz.f206 c206:=okI (by kernel_rfl)
def c207:F':=⟨22,[.t 6],
 .seq (.reg [.o 6 (.mv (.c (.bool false)))])
 (.seq (.seq (.reg [.m 9 0,
 .o 10 (.len false (.t 9)),
 .o 11 (.mv (.c (.int .i64 0)))])
 (.block 0 (.loop (.seq (.reg [.b 12 .lss 11 10])
 (.seq (.cond (.t 12)
 (.skip)
 (.exit 0))
 (.seq (.block 1 (.seq (.reg [.i 13 8 9 11,
 .j 14 8 13,
 .o 8 (.new zS),
 .s 8 8 14])
 (.seq (.reg [.m 15 2,
 .m 16 1,
 .j 17 8 8,
 .o 18 (.call (.t 16) [(.t 17)]),
 .o 19 (.call (.t 15) [(.t 18)]),
 .o 20 (.un .not (.t 19))])
 (.cond (.t 20)
 (.seq (.reg [.o 6 (.mv (.c (.bool false)))])
 (.ret))
 (.skip)))))
 (.reg [.u 21 .add 11 1,
 .m 11 21])))))))
 (.seq (.reg [.o 6 (.mv (.c (.bool true)))])
 (.ret)))⟩
theorem ok207:okF Tryz.f207 c207:=okI (by kernel_rfl)
def c208:F':=⟨15,[.t 2,.t 3],
 .seq (.reg [.o 2 (.mv (.c (.int .i64 0))),
 .o 3 (.mv (.c (.int .i64 0)))])
 (.seq (.seq (.reg [.m 4 0])
 (.block 0 (.seq (.reg [.u 6 .eql 4 7,
 .m 5 6])
 (.cond (.t 5)
 (.seq (.reg [.o 2 (.mv (.c (.int .i64 1))),
 .o 3 (.mv (.c (.int .i64 4)))])
 (.ret))
 (.seq (.reg [.u 8 .eql 4 8,
 .m 7 8])
 (.cond (.t 7)
 (.seq (.reg [.o 2 (.mv (.c (.int .i64 1))),
 .o 3 (.mv (.c (.int .i64 8)))])
 (.ret))
 (.seq (.reg [.u 10 .eql 4 9,
 .m 9 10])
 (.cond (.t 9)
 (.seq (.reg [.o 2 (.mv (.c (.int .i64 1))),
 .o 3 (.mv (.c (.int .i64 1)))])
 (.ret))
 (.seq (.reg [.u 12 .eql 4 10,
 .m 11 12])
 (.cond (.t 11)
 (.seq (.reg [.o 2 (.mv (.c (.int .i64 2))),
 .o 3 (.mv (.c (.int .i64 2)))])
 (.ret))
 (.seq (.reg [.u 14 .eql 4 11,
 .m 13 14])
 (.cond (.t 13)
 (.seq (.reg [.o 2 (.mv (.c (.int .i64 3))),
 .o 3 (.mv (.c (.int .i64 3)))])
 (.ret))
 (.skip)))))))))))))
 (.seq (.reg [.o 2 (.mv (.c (.int .i64 0))),
 .o 3 (.mv (.c (.int .i64 0)))])
 (.ret)))⟩
theorem ok208:okF Tryz.f208 c208:=okI (by kernel_rfl)
def c209:F':=⟨15,[.t 6],
 .seq (.reg [.o 6 (.mv (.c (.bool false)))])
 (.seq (.reg [.m 7 1,
 .m 8 0,
 .b 9 .leq 7 8,
 .m 10 9,
 .v 11 10 true (.mv (.t 0)),
 .v 12 10 true (.mv (.t 2)),
 .v 13 10 true (.bin .leq (.t 11) (.t 12)),
 .y 14 10 13,
 .m 6 14])
 (.ret))⟩
theorem ok209:okF Tryz.f209 c209:=okI (by kernel_rfl)
def c212:F':=⟨20,[.t 4],
 .seq (.reg [.o 2 (.box (.t 0)),
 .o 4 (.mv (.c (.bool false)))])
 (.seq (.reg [.m 5 1,
 .f 6 0 2,
 .l 7 6,
 .b 8 .geq 5 7,
 .m 9 8,
 .v 10 9 true (.fa 1 (.t 2)),
 .v 11 9 true (.ld none (.t 10)),
 .v 12 9 true (.bin .lss (.t 11) (.c (.int .i64 0))),
 .v 13 9 true (.mv (.t 12)),
 .v 14 13 false (.mv (.t 1)),
 .v 15 13 false (.fa 1 (.t 2)),
 .v 16 13 false (.ld none (.t 15)),
 .v 17 13 false (.bin .leq (.t 14) (.t 16)),
 .v 18 9 true (.pick (.t 13) (.c (.bool true)) (.t 17)),
 .y 19 9 18,
 .m 4 19])
 (.ret))⟩
theorem ok212:okF Tryz.f212 c212:=okI (by kernel_rfl)
def c213:F':=⟨6,[.t 2],
 .seq (.reg [.o 2 (.mv (.c (.bool false)))])
 (.seq (.reg [.m 3 0,
 .o 4 (.call (.f 138) [(.t 3),(.f 249)]),
 .o 5 (.un .not (.t 4)),
 .m 2 5])
 (.ret))⟩
theorem ok213:okF Tryz.f213 c213:=okI (by kernel_rfl)
def c214:F':=⟨23,[.t 2],
 .seq (.reg [.o 2 (.mv (.c (.bool false)))])
 (.seq (.seq (.reg [.m 5 0,
 .o 6 (.len false (.t 5)),
 .o 7 (.mv (.c (.int .i64 0)))])
 (.block 0 (.loop (.seq (.reg [.b 8 .lss 7 6])
 (.seq (.cond (.t 8)
 (.skip)
 (.exit 0))
 (.seq (.block 1 (.seq (.reg [.m 9 7,
 .i 10 4 5 7,
 .j 11 4 10,
 .o 4 (.new zF),
 .m 3 9,
 .s 4 4 11])
 (.seq (.reg [.j 12 4 4,
 .o 13 (.call (.f 250) [(.t 12)]),
 .o 14 (.un .not (.t 13)),
 .m 15 14,
 .v 16 15 false (.mv (.t 0)),
 .v 17 15 false (.mv (.t 3)),
 .v 18 15 false (.slc false 4 (.t 16) none (some (.t 17))),
 .v 19 15 false (.mkf 251 [] [(.t 4)]),
 .v 20 15 false (.call (.f 131) [(.t 18),(.t 19)]),
 .z 21 15 20])
 (.cond (.t 21)
 (.seq (.reg [.o 2 (.mv (.c (.bool false)))])
 (.ret))
 (.skip)))))
 (.reg [.u 22 .add 7 1,
 .m 7 22])))))))
 (.seq (.reg [.o 2 (.mv (.c (.bool true)))])
 (.ret)))⟩
theorem ok214:okF Tryz.f214 c214:=okI (by kernel_rfl)
def c215:F':=⟨6,[.t 2],
 .seq (.reg [.o 2 (.mv (.c (.bool false)))])
 (.seq (.reg [.m 3 0,
 .o 4 (.call (.f 252) [(.t 3),(.f 253)]),
 .o 5 (.un .not (.t 4)),
 .m 2 5])
 (.ret))⟩
theorem ok215:okF Tryz.f215 c215:=okI (by kernel_rfl)
def c218:F':=⟨25,[.t 4],
 .seq (.reg [.o 4 (.mv (.c (.sl true [])))])
 (.seq (.reg [.o 5 (.mv (.c (.sl true [])))])
 (.seq (.seq (.reg [.m 8 0,
 .o 9 (.len false (.t 8)),
 .o 10 (.mv (.c (.int .i64 0)))])
 (.block 0 (.loop (.seq (.reg [.b 11 .lss 10 9])
 (.seq (.cond (.t 11)
 (.skip)
 (.exit 0))
 (.seq (.block 1 (.seq (.reg [.i 12 1 8 10,
 .l 13 12,
 .m 7 13])
 (.reg [.m 14 5,
 .m 15 1,
 .m 16 7,
 .o 17 (.call (.f 60) [(.t 15),(.t 16)]),
 .h 18 17,
 .f 19 2 18,
 .l 20 19,
 .o 21 (.bsl 1 [(.t 20)]),
 .o 22 (.app 1 16 (.t 14) (.t 21)),
 .m 5 22])))
 (.reg [.u 23 .add 10 1,
 .m 10 23])))))))
 (.seq (.reg [.m 24 5,
 .m 4 24])
 (.ret))))⟩
theorem ok218:okF Tryz.f218 c218:=okI (by kernel_rfl)
def c219:F':=⟨4,[.t 2],
 .seq (.reg [.o 1 (.box (.t 0)),
 .o 2 (.mv (.c .nilfn))])
 (.seq (.reg [.o 3 (.mkf 255 [] [(.t 1)]),
 .m 2 3])
 (.ret))⟩
theorem ok219:okF Tryz.f219 c219:=okI (by kernel_rfl)
def c220:F':=⟨51,[.t 8],
 .seq (.reg [.o 8 (.mv (.c (.sl true [])))])
 (.seq (.reg [.o 9 (.mv (.c (.sl true [])))])
 (.seq (.seq (.reg [.m 12 1,
 .o 13 (.len false (.t 12)),
 .o 14 (.mv (.c (.int .i64 0)))])
 (.block 0 (.loop (.seq (.reg [.b 15 .lss 14 13])
 (.seq (.cond (.t 15)
 (.skip)
 (.exit 0))
 (.seq (.block 1 (.seq (.reg [.i 16 7 12 14,
 .j 17 7 16,
 .o 11 (.new zD),
 .s 7 11 17])
 (.seq (.reg [.f 18 3 11,
 .l 19 18,
 .m 20 2,
 .o 21 (.call (.f 218) [(.t 19),(.t 20)]),
 .f 22 3 11,
 .s 1 22 21])
 (.seq (.seq (.reg [.f 23 0 11,
 .l 24 23,
 .u 25 .eql 24 2])
 (.cond (.t 25)
 (.reg [.m 26 0,
 .f 27 4 11,
 .l 28 27,
 .m 29 3,
 .o 30 (.call (.f 134) [(.t 26),(.t 28),(.t 29),(.c (.bool false))]),
 .f 31 4 11,
 .s 1 31 30])
 (.reg [.m 32 0,
 .f 33 4 11,
 .l 34 33,
 .m 35 2,
 .o 36 (.call (.f 134) [(.t 32),(.t 34),(.t 35),(.c (.bool false))]),
 .f 37 4 11,
 .s 1 37 36])))
 (.seq (.seq (.reg [.f 38 0 11,
 .l 39 38,
 .u 40 .eql 39 4])
 (.cond (.t 40)
 (.reg [.m 41 0,
 .j 42 7 11,
 .m 43 2,
 .o 44 (.call (.f 256) [(.t 41),(.t 42),(.t 43)]),
 .s 7 11 44])
 (.skip)))
 (.reg [.m 45 9,
 .j 46 7 11,
 .o 47 (.bsl 7 [(.t 46)]),
 .o 48 (.app 7 120 (.t 45) (.t 47)),
 .m 9 48]))))))
 (.reg [.u 49 .add 14 1,
 .m 14 49])))))))
 (.seq (.reg [.m 50 9,
 .m 8 50])
 (.ret))))⟩
theorem ok220:okF Tryz.f220 c220:=okI (by kernel_rfl)
def c221:F':=⟨29,[.t 6],
 .seq (.reg [.o 6 (.mv (.c (.sl true [])))])
 (.seq (.reg [.o 7 (.mv (.c (.sl true [])))])
 (.seq (.seq (.reg [.m 10 1,
 .o 11 (.len false (.t 10)),
 .o 12 (.mv (.c (.int .i64 0)))])
 (.block 0 (.loop (.seq (.reg [.b 13 .lss 12 11])
 (.seq (.cond (.t 13)
 (.skip)
 (.exit 0))
 (.seq (.block 1 (.seq (.reg [.i 14 2 10 12,
 .j 15 2 14,
 .o 9 (.new zE),
 .s 2 9 15])
 (.draw [⟨.m 16 7,false,none,false,[],0,1⟩,
 ⟨.f 17 0 9,false,none,false,[],0,1⟩,
 ⟨.l 18 17,false,none,true,[1],0,1⟩,
 ⟨.m 19 0,false,none,false,[],0,0⟩,
 ⟨.f 20 1 9,false,none,false,[],0,0⟩,
 ⟨.l 21 20,false,none,false,[4],0,0⟩,
 ⟨.m 22 2,false,none,false,[],0,0⟩,
 ⟨.o 23 (.call (.f 134) [(.t 19),(.t 21),(.t 22),(.c (.bool false))]),true,none,false,[3,5,6,4],0,0⟩,
 ⟨.o 24 (.build zE [(0,0,1,(.t 18)),(1,1,1,(.t 23))]),false,none,false,[2,7,1,3,5,6,4],1,1⟩,
 ⟨.o 25 (.bsl 2 [(.t 24)]),false,none,false,[8,2,7,1,3,5,6,4],1,1⟩,
 ⟨.o 26 (.app 2 32 (.t 16) (.t 25)),true,none,false,[0,9,8,2,7,1,3,5,6,4],1,1⟩,
 ⟨.m 7 26,false,none,false,[10,0,9,8,2,7,1,3,5,6,4],2,2⟩] [])))
 (.reg [.u 27 .add 12 1,
 .m 12 27])))))))
 (.seq (.reg [.m 28 7,
 .m 6 28])
 (.ret))))⟩
theorem ok221:okF Tryz.f221 c221:=okI (by kernel_rfl)
def c228:F':=⟨21,[.t 4],
 .seq (.reg [.o 4 (.mv (.c (.sl true [])))])
 (.seq (.seq (.reg [.o 5 (.mv (.c (.int .i64 0)))])
 (.block 0 (.loop (.seq (.seq (.reg [.m 6 5,
 .m 7 1,
 .o 8 (.len false (.t 7)),
 .b 9 .lss 6 8])
 (.cond (.t 9)
 (.skip)
 (.exit 0)))
 (.seq (.block 1 (.reg [.m 12 0,
 .m 13 1,
 .m 14 5,
 .i 15 7 13 14,
 .j 16 7 15,
 .o 17 (.build zP [(0,0,1,(.c (.int .i64 4))),(4,18,7,(.t 16))]),
 .o 18 (.bsl 25 [(.t 17)]),
 .o 19 (.app 25 408 (.t 12) (.t 18)),
 .m 0 19]))
 (.reg [.m 10 5,
 .u 11 .add 10 1,
 .m 5 11]))))))
 (.seq (.reg [.m 20 0,
 .m 4 20])
 (.ret)))⟩
theorem ok228:okF Tryz.f228 c228:=okI (by kernel_rfl)
def c229:F':=⟨21,[.t 4],
 .seq (.reg [.o 4 (.mv (.c (.sl true [])))])
 (.seq (.seq (.reg [.o 5 (.mv (.c (.int .i64 0)))])
 (.block 0 (.loop (.seq (.seq (.reg [.m 6 5,
 .m 7 1,
 .o 8 (.len false (.t 7)),
 .b 9 .lss 6 8])
 (.cond (.t 9)
 (.skip)
 (.exit 0)))
 (.seq (.block 1 (.reg [.m 12 0,
 .m 13 1,
 .m 14 5,
 .i 15 8 13 14,
 .j 16 8 15,
 .o 17 (.build zP [(0,0,1,(.c (.int .i64 1))),(1,1,8,(.t 16))]),
 .o 18 (.bsl 25 [(.t 17)]),
 .o 19 (.app 25 408 (.t 12) (.t 18)),
 .m 0 19]))
 (.reg [.m 10 5,
 .u 11 .add 10 1,
 .m 5 11]))))))
 (.seq (.reg [.m 20 0,
 .m 4 20])
 (.ret)))⟩
theorem ok229:okF Tryz.f229 c229:=okI (by kernel_rfl)
def c233:F':=⟨26,[.t 4],
 .seq (.reg [.o 4 (.mv (.c (.bool false)))])
 (.seq (.seq (.reg [.m 6 0,
 .o 7 (.len false (.t 6)),
 .m 8 1,
 .o 9 (.len false (.t 8)),
 .b 10 .neq 7 9])
 (.cond (.t 10)
 (.seq (.reg [.o 4 (.mv (.c (.bool false)))])
 (.ret))
 (.skip)))
 (.seq (.seq (.reg [.o 5 (.mv (.c (.int .i64 0)))])
 (.block 0 (.loop (.seq (.seq (.reg [.m 11 5,
 .m 12 0,
 .o 13 (.len false (.t 12)),
 .b 14 .lss 11 13])
 (.cond (.t 14)
 (.skip)
 (.exit 0)))
 (.seq (.block 1 (.seq (.draw [⟨.m 17 0,false,none,false,[],0,0⟩,
 ⟨.m 18 5,false,none,false,[],0,0⟩,
 ⟨.i 19 1 17 18,false,none,false,[0,1],0,0⟩,
 ⟨.l 20 19,false,none,false,[2,0,1],0,0⟩,
 ⟨.m 21 1,false,none,false,[],0,0⟩,
 ⟨.m 22 5,false,none,false,[],0,0⟩,
 ⟨.i 23 1 21 22,false,none,false,[4,5],0,0⟩,
 ⟨.l 24 23,false,none,false,[6,4,5],0,0⟩,
 ⟨.b 25 .neq 20 24,false,none,false,[3,7,2,0,1,6,4,5],0,0⟩] [])
 (.cond (.t 25)
 (.seq (.reg [.o 4 (.mv (.c (.bool false)))])
 (.ret))
 (.skip))))
 (.reg [.m 15 5,
 .u 16 .add 15 1,
 .m 5 16]))))))
 (.seq (.reg [.o 4 (.mv (.c (.bool true)))])
 (.ret))))⟩
theorem ok233:okF Tryz.f233 c233:=okI (by kernel_rfl)
def c234:F':=cmp Tryz.f234
theorem ok234:okF Tryz.f234 c234:=okI (by kernel_rfl)
def c238:F':=cmp Tryz.f238
theorem ok238:okF Tryz.f238 c238:=okI (by kernel_rfl)
def c244:F':=cmp Tryz.f244
theorem ok244:okF Tryz.f244 c244:=okI (by kernel_rfl)
def c248:F':=cmp Tryz.f248
theorem ok248:okF Tryz.f248 c248:=okI (by kernel_rfl)
def c249:F':=⟨6,[.t 2],
 .seq (.reg [.o 2 (.mv (.c (.bool false)))])
 (.seq (.reg [.m 3 0,
 .o 4 (.call (.f 57) [(.t 3)]),
 .o 5 (.un .not (.t 4)),
 .m 2 5])
 (.ret))⟩
theorem ok249:okF Tryz.f249 c249:=okI (by kernel_rfl)
def c250:F':=⟨52,[.t 2],
 .seq (.reg [.o 1 (.box (.t 0)),
 .o 2 (.mv (.c (.bool false)))])
 (.seq (.seq (.reg [.f 3 0 1,
 .l 4 3,
 .o 5 (.call (.f 57) [(.t 4)]),
 .o 6 (.un .not (.t 5))])
 (.cond (.t 6)
 (.seq (.reg [.o 2 (.mv (.c (.bool false)))])
 (.ret))
 (.skip)))
 (.seq (.seq (.reg [.f 7 2 1,
 .l 8 7])
 (.block 0 (.seq (.seq (.reg [.u 10 .eql 8 0,
 .m 9 10])
 (.cond (.t 9)
 (.skip)
 (.seq (.reg [.u 11 .eql 8 3,
 .m 9 11])
 (.cond (.t 9)
 (.skip)
 (.seq (.reg [.u 12 .eql 8 4,
 .m 9 12])
 (.cond (.t 9)
 (.skip)
 (.reg [.u 13 .eql 8 5,
 .m 9 13])))))))
 (.cond (.t 9)
 (.seq (.reg [.f 14 3 1,
 .l 15 14,
 .u 16 .eql 15 0,
 .m 17 16,
 .v 18 17 true (.fa 1 (.t 1)),
 .v 19 17 true (.ld none (.t 18)),
 .v 20 17 true (.un .not (.t 19)),
 .y 21 17 20,
 .m 2 21])
 (.ret))
 (.seq (.reg [.u 23 .eql 8 1,
 .m 22 23])
 (.cond (.t 22)
 (.seq (.reg [.f 24 3 1,
 .l 25 24,
 .o 26 (.call (.f 209) [(.t 25),(.c (.int .i64 1)),(.c (.int .i64 3))]),
 .m 2 26])
 (.ret))
 (.seq (.reg [.u 28 .eql 8 2,
 .m 27 28])
 (.cond (.t 27)
 (.seq (.reg [.f 29 3 1,
 .l 30 29,
 .o 31 (.call (.f 209) [(.t 30),(.c (.int .i64 0)),(.c (.int .i64 3))]),
 .m 32 31,
 .v 33 32 true (.fa 1 (.t 1)),
 .v 34 32 true (.ld none (.t 33)),
 .v 35 32 true (.un .not (.t 34)),
 .v 36 32 true (.mv (.t 35)),
 .v 37 36 false (.fa 3 (.t 1)),
 .v 38 36 false (.ld none (.t 37)),
 .v 39 36 false (.bin .neq (.t 38) (.c (.int .i64 0))),
 .v 40 32 true (.pick (.t 36) (.c (.bool true)) (.t 39)),
 .y 41 32 40,
 .m 2 41])
 (.ret))
 (.seq (.reg [.u 43 .eql 8 6,
 .m 42 43])
 (.cond (.t 42)
 (.seq (.reg [.f 44 3 1,
 .l 45 44,
 .o 46 (.call (.f 209) [(.t 45),(.c (.int .i64 0)),(.c (.int .i64 3))]),
 .m 47 46,
 .v 48 47 true (.fa 1 (.t 1)),
 .v 49 47 true (.ld none (.t 48)),
 .v 50 47 true (.un .not (.t 49)),
 .y 51 47 50,
 .m 2 51])
 (.ret))
 (.skip)))))))))))
 (.seq (.reg [.o 2 (.mv (.c (.bool false)))])
 (.ret))))⟩
theorem ok250:okF Tryz.f250 c250:=okI (by kernel_rfl)
def c251:F':=⟨9,[.t 3],
 .seq (.reg [.o 2 (.box (.t 0)),
 .o 3 (.mv (.c (.bool false)))])
 (.seq (.reg [.f 4 0 2,
 .l 5 4,
 .f 6 0 1,
 .l 7 6,
 .b 8 .eql 5 7,
 .m 3 8])
 (.ret))⟩
theorem ok251:okF Tryz.f251 c251:=okI (by kernel_rfl)
def c252:F':=⟨9,[.t 4],
 .seq (.reg [.o 4 (.mv (.c (.bool false)))])
 (.seq (.reg [.m 5 0,
 .m 6 1,
 .o 7 (.call (.f 269) [(.t 5),(.t 6)]),
 .u 8 .geq 7 0,
 .m 4 8])
 (.ret))⟩
theorem ok252:okF Tryz.f252 c252:=okI (by kernel_rfl)
def c253:F':=⟨11,[.t 2],
 .seq (.reg [.o 1 (.box (.t 0)),
 .o 2 (.mv (.c (.bool false)))])
 (.seq (.reg [.f 3 0 1,
 .l 4 3,
 .u 5 .neq 4 6,
 .m 6 5,
 .v 7 6 true (.fa 0 (.t 1)),
 .v 8 6 true (.ld none (.t 7)),
 .v 9 6 true (.bin .neq (.t 8) (.c (.int .i64 7))),
 .y 10 6 9,
 .m 2 10])
 (.ret))⟩
theorem ok253:okF Tryz.f253 c253:=okI (by kernel_rfl)
noncomputable def c255:F':=⟨36,[],
 .seq (.reg [.o 2 (.box (.t 0))])
 (.seq (.seq (.reg [.f 8 6 1,
 .l 9 8,
 .o 10 (.len false (.t 9)),
 .o 11 (.mv (.c (.int .i64 0)))])
 (.block 0 (.loop (.seq (.reg [.b 12 .lss 11 10])
 (.seq (.cond (.t 12)
 (.skip)
 (.exit 0))
 (.seq (.block 1 (.seq (.reg [.i 13 7 9 11,
 .j 14 7 13,
 .o 4 (.new zD),
 .s 7 4 14])
 (.seq (.reg [.f 15 3 4,
 .l 16 15,
 .o 17 (.len false (.t 16)),
 .o 18 (.mv (.c (.int .i64 0)))])
 (.block 2 (.loop (.seq (.reg [.b 19 .lss 18 17])
 (.seq (.cond (.t 19)
 (.skip)
 (.exit 2))
 (.seq (.block 3 (.seq (.reg [.i 20 1 16 18,
 .l 21 20,
 .m 6 21])
 (.seq (.reg [.l 22 2,
 .m 23 6,
 .o 24 (.call (.t 22) [(.t 23)]),
 .o 25 (.un .not (.t 24))])
 (.cond (.t 25)
 (.ret)
 (.skip)))))
 (.reg [.u 26 .add 18 1,
 .m 18 26])))))))))
 (.reg [.u 27 .add 11 1,
 .m 11 27])))))))
 (.seq (.reg [.f 28 7 1,
 .l 29 28,
 .o 30 (.call (.f 158) [(.t 29)])])
 (.block 4 (.rf (.t 30) [31] (rfAt Tryz.f255 0).1 (rfAt Tryz.f255 0).2
 (.reg [.m 7 31])
 (.block 5 (.seq (.reg [.l 32 2,
 .m 33 7,
 .o 34 (.call (.t 32) [(.t 33)]),
 .o 35 (.un .not (.t 34))])
 (.cond (.t 35)
 (.ret)
 (.skip))))
 36 [31,2,7,32,33,34,35]))))⟩
theorem ok255:okF Tryz.f255 c255:=okI (by kernel_rfl)
def c268:F':=cmp Tryz.f268
theorem ok268:okF Tryz.f268 c268:=okI (by kernel_rfl)
def c269:F':=⟨19,[.t 4],
 .seq (.reg [.o 4 (.mv (.c (.int .i64 0)))])
 (.seq (.seq (.reg [.m 6 0,
 .o 7 (.len false (.t 6)),
 .o 8 (.mv (.c (.int .i64 0)))])
 (.block 0 (.loop (.seq (.reg [.b 9 .lss 8 7])
 (.seq (.cond (.t 9)
 (.skip)
 (.exit 0))
 (.seq (.block 1 (.seq (.reg [.m 10 8,
 .m 5 10])
 (.seq (.reg [.m 11 1,
 .m 12 0,
 .m 13 5,
 .i 14 7 12 13,
 .j 15 7 14,
 .o 16 (.call (.t 11) [(.t 15)])])
 (.cond (.t 16)
 (.seq (.reg [.m 17 5,
 .m 4 17])
 (.ret))
 (.skip)))))
 (.reg [.u 18 .add 8 1,
 .m 8 18])))))))
 (.seq (.reg [.o 4 (.mv (.c (.int .i64 (-1))))])
 (.ret)))⟩
theorem ok269:okF Tryz.f269 c269:=okI (by kernel_rfl)
end Go.Proofs.YtbifpocccfkhhaaGreatDoor
end
