/- The types and functions of the seat, as the machine takes them. Conditions: none. -/
import Derived.Test.YtbphhigmepdohaaAmc
import Derived.Test.YtbphhigmepdohaaProg
import Derived.KernelRfl
namespace Go.Proofs.Ytbphhigmepdohaa.Am
set_option linter.unusedVariables false
set_option linter.unusedSimpArgs false
open Go Go.Proofs
set_option maxRecDepth 100000
def tab : Tab where
  ts := [(2, ⟨1, 8, [tI 0], .int .i64⟩),
    (3, ⟨1, 8, [tI 0], .int .i64⟩),
    (4, ⟨1, 1, [tB false], .bool⟩),
    (5, ⟨1, 1, [tY 0], .int .u8⟩),
    (6, ⟨1, 1, [tY 0], .int .u8⟩),
    (7, ⟨4, 24, [tI 0, tI 0, tB false, tY 0], .struct [0, 1, 2, 3]⟩),
    (8, ⟨4, 24, [tI 0, tI 0, tB false, tY 0], .struct [0, 1, 2, 3]⟩),
    (9, ⟨1, 16, [tS ByteArray.empty], .str⟩),
    (10, ⟨1, 16, [tS ByteArray.empty], .str⟩),
    (11, ⟨1, 16, [tS ByteArray.empty], .str⟩),
    (12, ⟨1, 8, [.v (.int .u64 0)], .int .u64⟩),
    (13, ⟨2, 24, [tS ByteArray.empty, .v (.int .u64 0)], .struct [0, 1]⟩),
    (14, ⟨2, 24, [tS ByteArray.empty, .v (.int .u64 0)], .struct [0, 1]⟩),
    (21, ⟨1, 4, [.v (.int .i32 0)], .int .i32⟩),
    (26, ⟨8, 80, [tI 0, tI 0, tI 0, tS ByteArray.empty, tS ByteArray.empty, tI 0, tI 0, tB false], .struct [0, 1, 2, 3, 4, 5, 6, 7]⟩),
    (27, ⟨8, 80, [tI 0, tI 0, tI 0, tS ByteArray.empty, tS ByteArray.empty, tI 0, tI 0, tB false], .struct [0, 1, 2, 3, 4, 5, 6, 7]⟩),
    (30, ⟨8, 80, [tI 0, tI 0, tI 0, tS ByteArray.empty, tS ByteArray.empty, tI 0, tI 0, tB false], .struct [0, 1, 2, 3, 4, 5, 6, 7]⟩),
    (33, ⟨2, 16, [tI 0, tI 0], .struct [0, 1]⟩),
    (34, ⟨2, 16, [tI 0, tI 0], .struct [0, 1]⟩),
    (35, ⟨1, 24, [.s .own () 0 []], .slice 169⟩),
    (36, ⟨5, 64, [tS ByteArray.empty, tI 0, tI 0, tI 0, .s .own () 0 []], .struct [0, 1, 3, 4]⟩),
    (37, ⟨5, 64, [tS ByteArray.empty, tI 0, tI 0, tI 0, .s .own () 0 []], .struct [0, 1, 3, 4]⟩),
    (40, ⟨2, 16, [tI 0, tI 0], .struct [0, 1]⟩),
    (41, ⟨1, 24, [.s .own () 0 []], .slice 121⟩),
    (42, ⟨5, 64, [tS ByteArray.empty, tI 0, tI 0, tI 0, .s .own () 0 []], .struct [0, 1, 3, 4]⟩),
    (43, ⟨5, 64, [tS ByteArray.empty, tI 0, tI 0, tI 0, .s .own () 0 []], .struct [0, 1, 3, 4]⟩),
    (47, ⟨1, 24, [.s .own () 0 []], .slice 173⟩),
    (48, ⟨6, 80, [tS ByteArray.empty, tS ByteArray.empty, tI 0, tI 0, tB false, .s .own () 0 []], .struct [0, 1, 2, 3, 4, 5]⟩),
    (49, ⟨6, 80, [tS ByteArray.empty, tS ByteArray.empty, tI 0, tI 0, tB false, .s .own () 0 []], .struct [0, 1, 2, 3, 4, 5]⟩),
    (52, ⟨1, 24, [.s .own () 0 []], .slice 133⟩),
    (53, ⟨6, 80, [tS ByteArray.empty, tS ByteArray.empty, tI 0, tI 0, tB false, .s .own () 0 []], .struct [0, 1, 2, 3, 4, 5]⟩),
    (54, ⟨6, 80, [tS ByteArray.empty, tS ByteArray.empty, tI 0, tI 0, tB false, .s .own () 0 []], .struct [0, 1, 2, 3, 4, 5]⟩),
    (60, ⟨1, 24, [.s .own () 0 []], .slice 5⟩),
    (62, ⟨1, 24, [.s .own () 0 []], .slice 3⟩),
    (63, ⟨5, 120, [.s .own () 0 [], .s .own () 0 [], .s .own () 0 [], .s .own () 0 [], .s .own () 0 []], .struct [0, 1, 2, 3, 4]⟩),
    (64, ⟨5, 120, [.s .own () 0 [], .s .own () 0 [], .s .own () 0 [], .s .own () 0 [], .s .own () 0 []], .struct [0, 1, 2, 3, 4]⟩),
    (68, ⟨1, 24, [.s .own () 0 []], .slice 40⟩),
    (80, ⟨1, 24, [.s .own () 0 []], .slice 192⟩),
    (81, ⟨12, 136, [tI 0, tI 0, tI 0, tI 0, tI 0, tI 0, tI 0, tB false, .s .own () 0 [], .s .own () 0 [], tS ByteArray.empty, tB false], .struct [0, 1, 2, 3, 4, 5, 6, 7, 8, 9, 10, 11]⟩),
    (82, ⟨12, 136, [tI 0, tI 0, tI 0, tI 0, tI 0, tI 0, tI 0, tB false, .s .own () 0 [], .s .own () 0 [], tS ByteArray.empty, tB false], .struct [0, 1, 2, 3, 4, 5, 6, 7, 8, 9, 10, 11]⟩),
    (85, ⟨1, 24, [.s .own () 0 []], .slice 153⟩),
    (86, ⟨12, 136, [tI 0, tI 0, tI 0, tI 0, tI 0, tI 0, tI 0, tB false, .s .own () 0 [], .s .own () 0 [], tS ByteArray.empty, tB false], .struct [0, 1, 2, 3, 4, 5, 6, 7, 8, 9, 10, 11]⟩),
    (87, ⟨12, 136, [tI 0, tI 0, tI 0, tI 0, tI 0, tI 0, tI 0, tB false, .s .own () 0 [], .s .own () 0 [], tS ByteArray.empty, tB false], .struct [0, 1, 2, 3, 4, 5, 6, 7, 8, 9, 10, 11]⟩),
    (91, ⟨5, 120, [.s .own () 0 [], .s .own () 0 [], .s .own () 0 [], .s .own () 0 [], .s .own () 0 []], .struct [0, 1, 2, 3, 4]⟩),
    (99, ⟨3, 40, [tI 0, tI 0, .s .own () 0 []], .struct [0, 1, 2]⟩),
    (100, ⟨3, 40, [tI 0, tI 0, .s .own () 0 []], .struct [0, 1, 2]⟩),
    (101, ⟨1, 24, [.s .own () 0 []], .slice 198⟩),
    (102, ⟨14, 176, [tI 0, tI 0, tI 0, tI 0, tI 0, .s .own () 0 [], tI 0, tI 0, .s .own () 0 [], tI 0, tI 0, tI 0, .s .own () 0 [], .s .own () 0 []], .struct [0, 1, 2, 3, 4, 5, 6, 9, 10, 11, 12, 13]⟩),
    (103, ⟨14, 176, [tI 0, tI 0, tI 0, tI 0, tI 0, .s .own () 0 [], tI 0, tI 0, .s .own () 0 [], tI 0, tI 0, tI 0, .s .own () 0 [], .s .own () 0 []], .struct [0, 1, 2, 3, 4, 5, 6, 9, 10, 11, 12, 13]⟩),
    (106, ⟨3, 40, [tI 0, tI 0, .s .own () 0 []], .struct [0, 1, 2]⟩),
    (107, ⟨3, 40, [tI 0, tI 0, .s .own () 0 []], .struct [0, 1, 2]⟩),
    (108, ⟨1, 24, [.s .own () 0 []], .slice 196⟩),
    (109, ⟨14, 176, [tI 0, tI 0, tI 0, tI 0, tI 0, .s .own () 0 [], tI 0, tI 0, .s .own () 0 [], tI 0, tI 0, tI 0, .s .own () 0 [], .s .own () 0 []], .struct [0, 1, 2, 3, 4, 5, 6, 9, 10, 11, 12, 13]⟩),
    (110, ⟨14, 176, [tI 0, tI 0, tI 0, tI 0, tI 0, .s .own () 0 [], tI 0, tI 0, .s .own () 0 [], tI 0, tI 0, tI 0, .s .own () 0 [], .s .own () 0 []], .struct [0, 1, 2, 3, 4, 5, 6, 9, 10, 11, 12, 13]⟩),
    (120, ⟨4, 32, [tI 0, tI 0, tI 0, tI 0], .struct [0, 1, 2, 3]⟩),
    (121, ⟨4, 32, [tI 0, tI 0, tI 0, tI 0], .struct [0, 1, 2, 3]⟩),
    (131, ⟨1, 24, [.s .own () 0 []], .slice 9⟩),
    (132, ⟨5, 72, [tS ByteArray.empty, tS ByteArray.empty, tI 0, tB false, .s .own () 0 []], .struct [0, 1, 2, 3, 4]⟩),
    (133, ⟨5, 72, [tS ByteArray.empty, tS ByteArray.empty, tI 0, tB false, .s .own () 0 []], .struct [0, 1, 2, 3, 4]⟩),
    (152, ⟨3, 32, [tI 0, tI 0, tS ByteArray.empty], .struct [0, 1, 2]⟩),
    (153, ⟨3, 32, [tI 0, tI 0, tS ByteArray.empty], .struct [0, 1, 2]⟩),
    (169, ⟨4, 32, [tI 0, tI 0, tI 0, tI 0], .struct [0, 1, 2, 3]⟩),
    (173, ⟨5, 72, [tS ByteArray.empty, tS ByteArray.empty, tI 0, tB false, .s .own () 0 []], .struct [0, 1, 2, 3, 4]⟩),
    (176, ⟨3, 40, [.s .own () 0 [], tI 0, tI 0], .struct [0, 1, 2]⟩),
    (177, ⟨3, 40, [.s .own () 0 [], tI 0, tI 0], .struct [0, 1, 2]⟩),
    (179, ⟨1, 8, [.v (.int .u64 0)], .int .u64⟩),
    (186, ⟨5, 40, [tI 0, tI 0, tI 0, tI 0, tI 0], .struct [0, 1, 2, 3, 4]⟩),
    (187, ⟨5, 40, [tI 0, tI 0, tI 0, tI 0, tI 0], .struct [0, 1, 2, 3, 4]⟩),
    (192, ⟨3, 32, [tI 0, tI 0, tS ByteArray.empty], .struct [0, 1, 2]⟩),
    (195, ⟨4, 32, [tI 0, tI 0, tI 0, tI 0], .struct [0, 1, 2, 3]⟩),
    (196, ⟨4, 32, [tI 0, tI 0, tI 0, tI 0], .struct [0, 1, 2, 3]⟩),
    (198, ⟨4, 32, [tI 0, tI 0, tI 0, tI 0], .struct [0, 1, 2, 3]⟩),
    (217, ⟨1, 4, [.v (.int .u32 0)], .int .u32⟩),
    (218, ⟨1, 1, [tY 0], .int .u8⟩),
    (219, ⟨1, 1, [tY 0], .int .u8⟩),
    (222, ⟨1, 4, [.v (.int .i32 0)], .int .i32⟩),
    (223, ⟨1, 4, [.v (.int .i32 0)], .int .i32⟩)]
  eqs := [(26, [(0, 3), (1, 3), (2, 3), (3, 9), (4, 9), (5, 3), (6, 3), (7, 4)]),
    (27, [(0, 3), (1, 3), (2, 3), (3, 9), (4, 9), (5, 3), (6, 3), (7, 4)]),
    (30, [(0, 3), (1, 3), (2, 3), (3, 9), (4, 9), (5, 3), (6, 3), (7, 4)]),
    (33, [(0, 3), (1, 3)]),
    (34, [(0, 3), (1, 3)]),
    (40, [(0, 3), (1, 3)]),
    (120, [(0, 3), (1, 3), (2, 3), (3, 3)]),
    (121, [(0, 3), (1, 3), (2, 3), (3, 3)]),
    (152, [(0, 3), (1, 3), (2, 9)]),
    (153, [(0, 3), (1, 3), (2, 9)]),
    (169, [(0, 3), (1, 3), (2, 3), (3, 3)]),
    (186, [(0, 3), (1, 3), (2, 3), (3, 3), (4, 3)]),
    (187, [(0, 3), (1, 3), (2, 3), (3, 3), (4, 3)]),
    (192, [(0, 3), (1, 3), (2, 9)]),
    (195, [(0, 3), (1, 3), (2, 3), (3, 3)]),
    (196, [(0, 3), (1, 3), (2, 3), (3, 3)]),
    (198, [(0, 3), (1, 3), (2, 3), (3, 3)])]
  pls := [(7, [(0, 1), (1, 1), (2, 1), (3, 1)]),
    (8, [(0, 1), (1, 1), (2, 1), (3, 1)]),
    (13, [(0, 1), (1, 1)]),
    (14, [(0, 1), (1, 1)]),
    (26, [(0, 1), (1, 1), (2, 1), (3, 1), (4, 1), (5, 1), (6, 1), (7, 1)]),
    (27, [(0, 1), (1, 1), (2, 1), (3, 1), (4, 1), (5, 1), (6, 1), (7, 1)]),
    (30, [(0, 1), (1, 1), (2, 1), (3, 1), (4, 1), (5, 1), (6, 1), (7, 1)]),
    (33, [(0, 1), (1, 1)]),
    (34, [(0, 1), (1, 1)]),
    (36, [(0, 1), (1, 2), (3, 1), (4, 1)]),
    (37, [(0, 1), (1, 2), (3, 1), (4, 1)]),
    (40, [(0, 1), (1, 1)]),
    (42, [(0, 1), (1, 2), (3, 1), (4, 1)]),
    (43, [(0, 1), (1, 2), (3, 1), (4, 1)]),
    (48, [(0, 1), (1, 1), (2, 1), (3, 1), (4, 1), (5, 1)]),
    (49, [(0, 1), (1, 1), (2, 1), (3, 1), (4, 1), (5, 1)]),
    (53, [(0, 1), (1, 1), (2, 1), (3, 1), (4, 1), (5, 1)]),
    (54, [(0, 1), (1, 1), (2, 1), (3, 1), (4, 1), (5, 1)]),
    (63, [(0, 1), (1, 1), (2, 1), (3, 1), (4, 1)]),
    (64, [(0, 1), (1, 1), (2, 1), (3, 1), (4, 1)]),
    (81, [(0, 1), (1, 1), (2, 1), (3, 1), (4, 1), (5, 1), (6, 1), (7, 1), (8, 1), (9, 1), (10, 1), (11, 1)]),
    (82, [(0, 1), (1, 1), (2, 1), (3, 1), (4, 1), (5, 1), (6, 1), (7, 1), (8, 1), (9, 1), (10, 1), (11, 1)]),
    (86, [(0, 1), (1, 1), (2, 1), (3, 1), (4, 1), (5, 1), (6, 1), (7, 1), (8, 1), (9, 1), (10, 1), (11, 1)]),
    (87, [(0, 1), (1, 1), (2, 1), (3, 1), (4, 1), (5, 1), (6, 1), (7, 1), (8, 1), (9, 1), (10, 1), (11, 1)]),
    (91, [(0, 1), (1, 1), (2, 1), (3, 1), (4, 1)]),
    (99, [(0, 1), (1, 1), (2, 1)]),
    (100, [(0, 1), (1, 1), (2, 1)]),
    (102, [(0, 1), (1, 1), (2, 1), (3, 1), (4, 1), (5, 1), (6, 3), (9, 1), (10, 1), (11, 1), (12, 1), (13, 1)]),
    (103, [(0, 1), (1, 1), (2, 1), (3, 1), (4, 1), (5, 1), (6, 3), (9, 1), (10, 1), (11, 1), (12, 1), (13, 1)]),
    (106, [(0, 1), (1, 1), (2, 1)]),
    (107, [(0, 1), (1, 1), (2, 1)]),
    (109, [(0, 1), (1, 1), (2, 1), (3, 1), (4, 1), (5, 1), (6, 3), (9, 1), (10, 1), (11, 1), (12, 1), (13, 1)]),
    (110, [(0, 1), (1, 1), (2, 1), (3, 1), (4, 1), (5, 1), (6, 3), (9, 1), (10, 1), (11, 1), (12, 1), (13, 1)]),
    (120, [(0, 1), (1, 1), (2, 1), (3, 1)]),
    (121, [(0, 1), (1, 1), (2, 1), (3, 1)]),
    (132, [(0, 1), (1, 1), (2, 1), (3, 1), (4, 1)]),
    (133, [(0, 1), (1, 1), (2, 1), (3, 1), (4, 1)]),
    (152, [(0, 1), (1, 1), (2, 1)]),
    (153, [(0, 1), (1, 1), (2, 1)]),
    (169, [(0, 1), (1, 1), (2, 1), (3, 1)]),
    (173, [(0, 1), (1, 1), (2, 1), (3, 1), (4, 1)]),
    (176, [(0, 1), (1, 1), (2, 1)]),
    (177, [(0, 1), (1, 1), (2, 1)]),
    (186, [(0, 1), (1, 1), (2, 1), (3, 1), (4, 1)]),
    (187, [(0, 1), (1, 1), (2, 1), (3, 1), (4, 1)]),
    (192, [(0, 1), (1, 1), (2, 1)]),
    (195, [(0, 1), (1, 1), (2, 1), (3, 1)]),
    (196, [(0, 1), (1, 1), (2, 1), (3, 1)]),
    (198, [(0, 1), (1, 1), (2, 1), (3, 1)])]
noncomputable def fnTab : List (Nat × Func) := [(2, Try.f2), (3, Try.f3), (4, Try.f4), (5, Try.f5), (6, Try.f6), (7, Try.f7), (8, Try.f8), (9, Try.f9), (10, Try.f10), (11, Try.f11), (12, Try.f12), (13, Try.f13), (14, Try.f14), (15, Try.f15), (16, Try.f16), (17, Try.f17), (18, Try.f18), (19, Try.f19), (20, Try.f20), (21, Try.f21), (22, Try.f22), (23, Try.f23), (24, Try.f24), (25, Try.f25), (26, Try.f26), (27, Try.f27), (28, Try.f28), (29, Try.f29), (30, Try.f30), (31, Try.f31), (32, Try.f32), (33, Try.f33), (34, Try.f34), (35, Try.f35), (36, Try.f36), (37, Try.f37), (38, Try.f38), (39, Try.f39), (40, Try.f40), (41, Try.f41), (42, Try.f42), (43, Try.f43), (44, Try.f44), (45, Try.f45), (46, Try.f46), (47, Try.f47), (48, Try.f48), (49, Try.f49), (50, Try.f50), (51, Try.f51), (52, Try.f52), (53, Try.f53), (54, Try.f54), (55, Try.f55), (56, Try.f56), (57, Try.f57), (58, Try.f58), (59, Try.f59), (60, Try.f60), (61, Try.f61), (62, Try.f62), (63, Try.f63), (64, Try.f64), (65, Try.f65), (66, Try.f66), (67, Try.f67), (68, Try.f68), (69, Try.f69), (70, Try.f70), (71, Try.f71), (72, Try.f72), (73, Try.f73), (74, Try.f74), (75, Try.f75), (76, Try.f76), (77, Try.f77), (78, Try.f78), (79, Try.f79), (80, Try.f80), (81, Try.f81), (82, Try.f82), (83, Try.f83), (84, Try.f84), (85, Try.f85), (86, Try.f86), (87, Try.f87), (88, Try.f88), (89, Try.f89), (90, Try.f90), (91, Try.f91), (92, Try.f92), (93, Try.f93), (94, Try.f94), (95, Try.f95), (96, Try.f96), (97, Try.f97), (98, Try.f98), (99, Try.f99), (100, Try.f100), (101, Try.f101), (102, Try.f102), (103, Try.f103), (104, Try.f104), (105, Try.f105), (106, Try.f106), (107, Try.f107), (108, Try.f108), (109, Try.f109), (110, Try.f110), (111, Try.f111), (112, Try.f112), (113, Try.f113), (114, Try.f114), (115, Try.f115), (116, Try.f116), (117, Try.f117), (118, Try.f118), (119, Try.f119), (120, Try.f120), (121, Try.f121), (122, Try.f122), (123, Try.f123), (124, Try.f124), (125, Try.f125), (126, Try.f126), (127, Try.f127), (128, Try.f128), (129, Try.f129), (130, Try.f130), (131, Try.f131), (132, Try.f132), (133, Try.f133), (134, Try.f134), (135, Try.f135), (136, Try.f136), (137, Try.f137), (138, Try.f138), (139, Try.f139), (140, Try.f140), (141, Try.f141), (142, Try.f142), (143, Try.f143), (144, Try.f144), (145, Try.f145), (146, Try.f146), (147, Try.f147), (148, Try.f148), (149, Try.f149), (150, Try.f150), (151, Try.f151), (152, Try.f152), (153, Try.f153), (154, Try.f154), (155, Try.f155), (156, Try.f156), (157, Try.f157), (158, Try.f158), (159, Try.f159), (160, Try.f160), (161, Try.f161), (162, Try.f162), (163, Try.f163), (164, Try.f164), (165, Try.f165), (166, Try.f166), (167, Try.f167), (168, Try.f168), (169, Try.f169), (170, Try.f170), (171, Try.f171), (172, Try.f172), (173, Try.f173)]
def hints : FuncId → Hint
  | 10 => { head := fun i => match i with | 11 => some [3, 4, 5, 6, 7, 8, 9] | 21 => some [3, 4, 6, 7, 8, 13, 14] | _ => none, tail := fun i e => match i, e with | 11, .exit 0 => some [3, 4, 6, 7, 8] | 11, .ret => some [2] | 21, .exit 2 => some [3, 4, 6, 7, 8, 13] | 21, .ret => some [2] | _, _ => none }
  | 19 => { head := fun i => match i with | 4 => some [0, 3] | _ => none, tail := fun i e => match i, e with | 4, .exit 0 => some [] | 4, .ret => some [2] | _, _ => none }
  | 20 => { head := fun i => match i with | 2 => some [0, 3] | _ => none, tail := fun i e => match i, e with | 2, .exit 0 => some [0] | 2, .ret => some [2] | _, _ => none }
  | 26 => { head := fun i => match i with | 2 => some [1, 3] | _ => none, tail := fun i e => match i, e with | 2, .exit 0 => some [] | 2, .ret => some [2] | _, _ => none }
  | 39 => { head := fun i => match i with | 5 => some [3, 4, 5] | _ => none, tail := fun i e => match i, e with | 5, .exit 0 => some [4] | 5, .ret => some [2] | _, _ => none }
  | 41 => { head := fun i => match i with | 4 => some [0, 1, 5] | _ => none, tail := fun i e => match i, e with | 4, .exit 0 => some [] | 4, .ret => some [4] | _, _ => none }
  | 43 => { head := fun i => match i with | 7 => some [1, 2, 3, 8, 9] | 11 => some [1, 2, 3, 8, 9, 10] | 14 => some [1, 2, 3, 8, 9, 10, 11] | _ => none, tail := fun i e => match i, e with | 7, .exit 0 => some [] | 7, .ret => some [6, 7] | 11, .exit 0 => some [] | 11, .exit 1 => some [1, 2, 3, 8, 9] | 11, .exit 2 => some [1, 2, 3, 8, 9] | 11, .ret => some [6, 7] | 14, .exit 0 => some [] | 14, .exit 1 => some [1, 2, 3, 8, 9] | 14, .exit 2 => some [1, 2, 3, 8, 9] | 14, .exit 3 => some [1, 2, 3, 8, 9, 10] | 14, .exit 4 => some [1, 2, 3, 8, 9, 10] | 14, .ret => some [6, 7] | _, _ => none }
  | 45 => { head := fun i => match i with | 3 => some [1, 5, 8, 9, 10] | _ => none, tail := fun i e => match i, e with | 3, .exit 0 => some [5] | 3, .ret => some [4] | _, _ => none }
  | 46 => { head := fun i => match i with | 2 => some [0, 1, 5] | _ => none, tail := fun i e => match i, e with | 2, .exit 0 => some [] | 2, .ret => some [4] | _, _ => none }
  | 52 => { head := fun i => match i with | 9 => some [1, 3, 4] | _ => none, tail := fun i e => match i, e with | 9, .exit 0 => some [1] | 9, .ret => some [2] | _, _ => none }
  | 63 => { head := fun i => match i with | 3 => some [1, 2, 5, 6] | _ => none, tail := fun i e => match i, e with | 3, .exit 0 => some [5] | 3, .ret => some [4] | _, _ => none }
  | 65 => { head := fun i => match i with | 2 => some [1, 2, 5] | _ => none, tail := fun i e => match i, e with | 2, .exit 0 => some [2] | 2, .ret => some [4] | _, _ => none }
  | 66 => { head := fun i => match i with | 4 => some [0, 1, 5] | _ => none, tail := fun i e => match i, e with | 4, .exit 0 => some [] | 4, .ret => some [4] | _, _ => none }
  | 69 => { head := fun i => match i with | 2 => some [0, 1, 5] | _ => none, tail := fun i e => match i, e with | 2, .exit 0 => some [1] | 2, .ret => some [4] | _, _ => none }
  | 70 => { head := fun i => match i with | 2 => some [0, 1, 5] | _ => none, tail := fun i e => match i, e with | 2, .exit 0 => some [1] | 2, .ret => some [4] | _, _ => none }
  | 78 => { head := fun i => match i with | 3 => some [0, 3, 4] | _ => none, tail := fun i e => match i, e with | 3, .exit 0 => some [3] | 3, .ret => some [2] | _, _ => none }
  | 81 => { head := fun i => match i with | 4 => some [0, 1, 5] | _ => none, tail := fun i e => match i, e with | 4, .exit 0 => some [] | 4, .ret => some [4] | _, _ => none }
  | 82 => { head := fun i => match i with | 5 => some [0, 1, 5] | _ => none, tail := fun i e => match i, e with | 5, .exit 0 => some [1] | 5, .ret => some [4] | _, _ => none }
  | 83 => { head := fun i => match i with | 2 => some [0, 1, 5] | _ => none, tail := fun i e => match i, e with | 2, .exit 0 => some [] | 2, .ret => some [4] | _, _ => none }
  | 84 => { head := fun i => match i with | 3 => some [0, 3, 4] | _ => none, tail := fun i e => match i, e with | 3, .exit 0 => some [3] | 3, .ret => some [2] | _, _ => none }
  | 85 => { head := fun i => match i with | 2 => some [0, 1, 7, 8] | _ => none, tail := fun i e => match i, e with | 2, .exit 0 => some [] | 2, .ret => some [4] | _, _ => none }
  | 87 => { head := fun i => match i with | 4 => some [0, 1, 5] | _ => none, tail := fun i e => match i, e with | 4, .exit 0 => some [] | 4, .ret => some [4] | _, _ => none }
  | 89 => { head := fun i => match i with | 2 => some [0, 3] | _ => none, tail := fun i e => match i, e with | 2, .exit 0 => some [0, 3] | 2, .ret => some [2] | _, _ => none }
  | 92 => { head := fun i => match i with | 3 => some [3, 6, 7, 8] | _ => none, tail := fun i e => match i, e with | 3, .exit 0 => some [3] | 3, .ret => some [2] | _, _ => none }
  | 93 => { head := fun i => match i with | 2 => some [0, 3] | _ => none, tail := fun i e => match i, e with | 2, .exit 0 => some [0, 3] | 2, .ret => some [2] | _, _ => none }
  | 96 => { head := fun i => match i with | 3 => some [0, 3, 4] | _ => none, tail := fun i e => match i, e with | 3, .exit 0 => some [0, 3] | 3, .ret => some [2] | _, _ => none }
  | 100 => { head := fun i => match i with | 2 => some [10, 11] | 7 => some [5, 6, 7, 10, 11, 23, 24, 25] | _ => none, tail := fun i e => match i, e with | 2, .exit 0 => some [] | 2, .ret => some [2] | 7, .exit 0 => some [] | 7, .exit 1 => some [10, 11] | 7, .exit 2 => some [7, 10, 11] | 7, .ret => some [2] | _, _ => none }
  | 101 => { head := fun i => match i with | 3 => some [2, 3, 4, 9, 10, 11] | _ => none, tail := fun i e => match i, e with | 3, .exit 0 => some [9] | 3, .ret => some [8] | _, _ => none }
  | 102 => { head := fun i => match i with | 2 => some [2, 3, 4, 5, 11, 12] | _ => none, tail := fun i e => match i, e with | 2, .exit 0 => some [4] | 2, .ret => some [10] | _, _ => none }
  | 105 => { head := fun i => match i with | 2 => some [0, 1, 5] | _ => none, tail := fun i e => match i, e with | 2, .exit 0 => some [] | 2, .ret => some [4] | _, _ => none }
  | 109 => { head := fun i => match i with | 2 => some [0, 1, 5] | _ => none, tail := fun i e => match i, e with | 2, .exit 0 => some [1] | 2, .ret => some [4] | _, _ => none }
  | 110 => { head := fun i => match i with | 2 => some [0, 1, 5] | _ => none, tail := fun i e => match i, e with | 2, .exit 0 => some [1] | 2, .ret => some [4] | _, _ => none }
  | 111 => { head := fun i => match i with | 5 => some [0, 1, 5] | _ => none, tail := fun i e => match i, e with | 5, .exit 0 => some [1] | 5, .ret => some [4] | _, _ => none }
  | 115 => { head := fun i => match i with | 3 => some [0, 3, 4] | _ => none, tail := fun i e => match i, e with | 3, .exit 0 => some [3] | 3, .ret => some [2] | _, _ => none }
  | 116 => { head := fun i => match i with | 3 => some [0, 3, 4] | _ => none, tail := fun i e => match i, e with | 3, .exit 0 => some [3] | 3, .ret => some [2] | _, _ => none }
  | 119 => { head := fun i => match i with | 3 => some [1, 3, 9, 10, 11] | _ => none, tail := fun i e => match i, e with | 3, .exit 0 => some [1] | 3, .ret => some [2] | _, _ => none }
  | 121 => { head := fun i => match i with | 4 => some [0, 1, 5] | _ => none, tail := fun i e => match i, e with | 4, .exit 0 => some [] | 4, .ret => some [4] | _, _ => none }
  | 124 => { head := fun i => match i with | 3 => some [0, 4, 5] | _ => none, tail := fun i e => match i, e with | 3, .exit 0 => some [0, 4] | 3, .ret => some [2, 3] | _, _ => none }
  | 126 => { head := fun i => match i with | 3 => some [0, 3, 4] | _ => none, tail := fun i e => match i, e with | 3, .exit 0 => some [3] | 3, .ret => some [2] | _, _ => none }
  | 130 => { head := fun i => match i with | 4 => some [0, 1, 5] | _ => none, tail := fun i e => match i, e with | 4, .exit 0 => some [] | 4, .ret => some [4] | _, _ => none }
  | 132 => { head := fun i => match i with | 2 => some [0, 1, 5] | _ => none, tail := fun i e => match i, e with | 2, .exit 0 => some [1] | 2, .ret => some [4] | _, _ => none }
  | 134 => { head := fun i => match i with | 2 => some [0, 1, 7, 8] | _ => none, tail := fun i e => match i, e with | 2, .exit 0 => some [] | 2, .ret => some [4] | _, _ => none }
  | 139 => { head := fun i => match i with | 4 => some [2, 7, 8] | 10 => some [0, 2, 7, 9, 10] | _ => none, tail := fun i e => match i, e with | 4, .exit 0 => some [7] | 4, .ret => some [6] | 10, .exit 2 => some [0, 7] | 10, .ret => some [6] | _, _ => none }
  | 142 => { head := fun i => match i with | 2 => some [1, 2, 3, 8] | _ => none, tail := fun i e => match i, e with | 2, .exit 0 => some [] | 2, .ret => some [6, 7] | _, _ => none }
  | 143 => { head := fun i => match i with | 2 => some [0, 1, 2, 7] | _ => none, tail := fun i e => match i, e with | 2, .exit 0 => some [0] | 2, .ret => some [6] | _, _ => none }
  | 144 => { head := fun i => match i with | 5 => some [0, 2, 4, 5] | 9 => some [0, 2, 4, 5, 6] | _ => none, tail := fun i e => match i, e with | 5, .exit 0 => some [0, 2, 4, 5] | 5, .ret => some [2, 3] | 9, .exit 2 => some [0, 2, 4, 5, 6] | 9, .ret => some [2, 3] | _, _ => none }
  | 146 => { head := fun i => match i with | 2 => some [0, 1, 7, 8] | _ => none, tail := fun i e => match i, e with | 2, .exit 0 => some [] | 2, .ret => some [4] | _, _ => none }
  | 149 => { head := fun i => match i with | 2 => some [0, 1, 2, 7] | _ => none, tail := fun i e => match i, e with | 2, .exit 0 => some [] | 2, .ret => some [6] | _, _ => none }
  | 152 => { head := fun i => match i with | 2 => some [0, 5, 6, 7] | _ => none, tail := fun i e => match i, e with | 2, .exit 0 => some [] | 2, .ret => some [2] | _, _ => none }
  | 155 => { head := fun i => match i with | 3 => some [3, 7, 8, 9] | _ => none, tail := fun i e => match i, e with | 3, .exit 0 => some [3] | 3, .ret => some [2] | _, _ => none }
  | 157 => { head := fun i => match i with | 2 => some [0, 1, 5] | _ => none, tail := fun i e => match i, e with | 2, .exit 0 => some [1] | 2, .ret => some [4] | _, _ => none }
  | 158 => { head := fun i => match i with | 5 => some [0, 1, 5] | _ => none, tail := fun i e => match i, e with | 5, .exit 0 => some [1] | 5, .ret => some [4] | _, _ => none }
  | 159 => { head := fun i => match i with | 3 => some [0, 3, 4] | _ => none, tail := fun i e => match i, e with | 3, .exit 0 => some [3] | 3, .ret => some [2] | _, _ => none }
  | 160 => { head := fun i => match i with | 4 => some [0, 1, 5] | _ => none, tail := fun i e => match i, e with | 4, .exit 0 => some [] | 4, .ret => some [4] | _, _ => none }
  | 162 => { head := fun i => match i with | 5 => some [2, 4, 6] | 8 => some [2, 4, 6] | _ => none, tail := fun i e => match i, e with | 5, .exit 0 => some [2, 4, 6] | 5, .ret => some [2, 3] | 8, .exit 2 => some [2, 4, 6] | 8, .ret => some [2, 3] | _, _ => none }
  | 164 => { head := fun i => match i with | 3 => some [1, 2, 6, 17, 18, 19] | 6 => some [1, 2, 6, 8, 17, 18, 19, 24, 25, 26] | _ => none, tail := fun i e => match i, e with | 3, .exit 0 => some [] | 3, .ret => some [4, 5] | 6, .exit 0 => some [] | 6, .exit 1 => some [1, 2, 6, 17, 18, 19] | 6, .exit 2 => some [1, 2, 6, 17, 18, 19] | 6, .ret => some [4, 5] | _, _ => none }
  | 167 => { head := fun i => match i with | 4 => some [0, 3] | _ => none, tail := fun i e => match i, e with | 4, .exit 0 => some [3] | 4, .ret => some [2] | _, _ => none }
  | _ => {}
theorem allNil {α : Type} {p : α → Prop} : ∀ x ∈ ([] : List α), p x := fun x h => by cases h
theorem allCons {α : Type} {p : α → Prop} {a : α} {l : List α} (h : p a) (t : ∀ x ∈ l, p x) : ∀ x ∈ a :: l, p x := fun x hx => by
  rcases List.mem_cons.1 hx with rfl | hx
  · exact h
  · exact t x hx
theorem ts_ok : ∀ p ∈ tab.ts, tiOf Try.prog p.1 = some p.2 := allCons (by kernel_rfl) (allCons (by kernel_rfl) (allCons (by kernel_rfl) (allCons (by kernel_rfl) (allCons (by kernel_rfl) (allCons (by kernel_rfl) (allCons (by kernel_rfl) (allCons (by kernel_rfl) (allCons (by kernel_rfl) (allCons (by kernel_rfl) (allCons (by kernel_rfl) (allCons (by kernel_rfl) (allCons (by kernel_rfl) (allCons (by kernel_rfl) (allCons (by kernel_rfl) (allCons (by kernel_rfl) (allCons (by kernel_rfl) (allCons (by kernel_rfl) (allCons (by kernel_rfl) (allCons (by kernel_rfl) (allCons (by kernel_rfl) (allCons (by kernel_rfl) (allCons (by kernel_rfl) (allCons (by kernel_rfl) (allCons (by kernel_rfl) (allCons (by kernel_rfl) (allCons (by kernel_rfl) (allCons (by kernel_rfl) (allCons (by kernel_rfl) (allCons (by kernel_rfl) (allCons (by kernel_rfl) (allCons (by kernel_rfl) (allCons (by kernel_rfl) (allCons (by kernel_rfl) (allCons (by kernel_rfl) (allCons (by kernel_rfl) (allCons (by kernel_rfl) (allCons (by kernel_rfl) (allCons (by kernel_rfl) (allCons (by kernel_rfl) (allCons (by kernel_rfl) (allCons (by kernel_rfl) (allCons (by kernel_rfl) (allCons (by kernel_rfl) (allCons (by kernel_rfl) (allCons (by kernel_rfl) (allCons (by kernel_rfl) (allCons (by kernel_rfl) (allCons (by kernel_rfl) (allCons (by kernel_rfl) (allCons (by kernel_rfl) (allCons (by kernel_rfl) (allCons (by kernel_rfl) (allCons (by kernel_rfl) (allCons (by kernel_rfl) (allCons (by kernel_rfl) (allCons (by kernel_rfl) (allCons (by kernel_rfl) (allCons (by kernel_rfl) (allCons (by kernel_rfl) (allCons (by kernel_rfl) (allCons (by kernel_rfl) (allCons (by kernel_rfl) (allCons (by kernel_rfl) (allCons (by kernel_rfl) (allCons (by kernel_rfl) (allCons (by kernel_rfl) (allCons (by kernel_rfl) (allCons (by kernel_rfl) (allCons (by kernel_rfl) (allCons (by kernel_rfl) (allCons (by kernel_rfl) (allCons (by kernel_rfl) (allCons (by kernel_rfl) (allCons (by kernel_rfl) (allCons (by kernel_rfl) (allCons (by kernel_rfl) (allNil)))))))))))))))))))))))))))))))))))))))))))))))))))))))))))))))))))))))))))))
theorem eqs_ok : ∀ p ∈ tab.eqs, eqOf Try.prog p.1 = some p.2 := allCons (by kernel_rfl) (allCons (by kernel_rfl) (allCons (by kernel_rfl) (allCons (by kernel_rfl) (allCons (by kernel_rfl) (allCons (by kernel_rfl) (allCons (by kernel_rfl) (allCons (by kernel_rfl) (allCons (by kernel_rfl) (allCons (by kernel_rfl) (allCons (by kernel_rfl) (allCons (by kernel_rfl) (allCons (by kernel_rfl) (allCons (by kernel_rfl) (allCons (by kernel_rfl) (allCons (by kernel_rfl) (allCons (by kernel_rfl) (allNil)))))))))))))))))
theorem pls_ok : ∀ p ∈ tab.pls, placesOf Try.prog p.1 = some p.2 := allCons (by kernel_rfl) (allCons (by kernel_rfl) (allCons (by kernel_rfl) (allCons (by kernel_rfl) (allCons (by kernel_rfl) (allCons (by kernel_rfl) (allCons (by kernel_rfl) (allCons (by kernel_rfl) (allCons (by kernel_rfl) (allCons (by kernel_rfl) (allCons (by kernel_rfl) (allCons (by kernel_rfl) (allCons (by kernel_rfl) (allCons (by kernel_rfl) (allCons (by kernel_rfl) (allCons (by kernel_rfl) (allCons (by kernel_rfl) (allCons (by kernel_rfl) (allCons (by kernel_rfl) (allCons (by kernel_rfl) (allCons (by kernel_rfl) (allCons (by kernel_rfl) (allCons (by kernel_rfl) (allCons (by kernel_rfl) (allCons (by kernel_rfl) (allCons (by kernel_rfl) (allCons (by kernel_rfl) (allCons (by kernel_rfl) (allCons (by kernel_rfl) (allCons (by kernel_rfl) (allCons (by kernel_rfl) (allCons (by kernel_rfl) (allCons (by kernel_rfl) (allCons (by kernel_rfl) (allCons (by kernel_rfl) (allCons (by kernel_rfl) (allCons (by kernel_rfl) (allCons (by kernel_rfl) (allCons (by kernel_rfl) (allCons (by kernel_rfl) (allCons (by kernel_rfl) (allCons (by kernel_rfl) (allCons (by kernel_rfl) (allCons (by kernel_rfl) (allCons (by kernel_rfl) (allCons (by kernel_rfl) (allCons (by kernel_rfl) (allCons (by kernel_rfl) (allCons (by kernel_rfl) (allNil)))))))))))))))))))))))))))))))))))))))))))))))))
theorem tab_ok : TabOk Try.prog tab := ⟨ts_ok, eqs_ok, pls_ok⟩
theorem fnTab_ok : ∀ p ∈ fnTab, Try.prog.funcs[p.1]? = some p.2 ∧ (p.2.name == "runtime.NumGoroutine") = false ∧ p.2.body.isNone = false := allCons ⟨Try.func2, by kernel_rfl, by kernel_rfl⟩ (allCons ⟨Try.func3, by kernel_rfl, by kernel_rfl⟩ (allCons ⟨Try.func4, by kernel_rfl, by kernel_rfl⟩ (allCons ⟨Try.func5, by kernel_rfl, by kernel_rfl⟩ (allCons ⟨Try.func6, by kernel_rfl, by kernel_rfl⟩ (allCons ⟨Try.func7, by kernel_rfl, by kernel_rfl⟩ (allCons ⟨Try.func8, by kernel_rfl, by kernel_rfl⟩ (allCons ⟨Try.func9, by kernel_rfl, by kernel_rfl⟩ (allCons ⟨Try.func10, by kernel_rfl, by kernel_rfl⟩ (allCons ⟨Try.func11, by kernel_rfl, by kernel_rfl⟩ (allCons ⟨Try.func12, by kernel_rfl, by kernel_rfl⟩ (allCons ⟨Try.func13, by kernel_rfl, by kernel_rfl⟩ (allCons ⟨Try.func14, by kernel_rfl, by kernel_rfl⟩ (allCons ⟨Try.func15, by kernel_rfl, by kernel_rfl⟩ (allCons ⟨Try.func16, by kernel_rfl, by kernel_rfl⟩ (allCons ⟨Try.func17, by kernel_rfl, by kernel_rfl⟩ (allCons ⟨Try.func18, by kernel_rfl, by kernel_rfl⟩ (allCons ⟨Try.func19, by kernel_rfl, by kernel_rfl⟩ (allCons ⟨Try.func20, by kernel_rfl, by kernel_rfl⟩ (allCons ⟨Try.func21, by kernel_rfl, by kernel_rfl⟩ (allCons ⟨Try.func22, by kernel_rfl, by kernel_rfl⟩ (allCons ⟨Try.func23, by kernel_rfl, by kernel_rfl⟩ (allCons ⟨Try.func24, by kernel_rfl, by kernel_rfl⟩ (allCons ⟨Try.func25, by kernel_rfl, by kernel_rfl⟩ (allCons ⟨Try.func26, by kernel_rfl, by kernel_rfl⟩ (allCons ⟨Try.func27, by kernel_rfl, by kernel_rfl⟩ (allCons ⟨Try.func28, by kernel_rfl, by kernel_rfl⟩ (allCons ⟨Try.func29, by kernel_rfl, by kernel_rfl⟩ (allCons ⟨Try.func30, by kernel_rfl, by kernel_rfl⟩ (allCons ⟨Try.func31, by kernel_rfl, by kernel_rfl⟩ (allCons ⟨Try.func32, by kernel_rfl, by kernel_rfl⟩ (allCons ⟨Try.func33, by kernel_rfl, by kernel_rfl⟩ (allCons ⟨Try.func34, by kernel_rfl, by kernel_rfl⟩ (allCons ⟨Try.func35, by kernel_rfl, by kernel_rfl⟩ (allCons ⟨Try.func36, by kernel_rfl, by kernel_rfl⟩ (allCons ⟨Try.func37, by kernel_rfl, by kernel_rfl⟩ (allCons ⟨Try.func38, by kernel_rfl, by kernel_rfl⟩ (allCons ⟨Try.func39, by kernel_rfl, by kernel_rfl⟩ (allCons ⟨Try.func40, by kernel_rfl, by kernel_rfl⟩ (allCons ⟨Try.func41, by kernel_rfl, by kernel_rfl⟩ (allCons ⟨Try.func42, by kernel_rfl, by kernel_rfl⟩ (allCons ⟨Try.func43, by kernel_rfl, by kernel_rfl⟩ (allCons ⟨Try.func44, by kernel_rfl, by kernel_rfl⟩ (allCons ⟨Try.func45, by kernel_rfl, by kernel_rfl⟩ (allCons ⟨Try.func46, by kernel_rfl, by kernel_rfl⟩ (allCons ⟨Try.func47, by kernel_rfl, by kernel_rfl⟩ (allCons ⟨Try.func48, by kernel_rfl, by kernel_rfl⟩ (allCons ⟨Try.func49, by kernel_rfl, by kernel_rfl⟩ (allCons ⟨Try.func50, by kernel_rfl, by kernel_rfl⟩ (allCons ⟨Try.func51, by kernel_rfl, by kernel_rfl⟩ (allCons ⟨Try.func52, by kernel_rfl, by kernel_rfl⟩ (allCons ⟨Try.func53, by kernel_rfl, by kernel_rfl⟩ (allCons ⟨Try.func54, by kernel_rfl, by kernel_rfl⟩ (allCons ⟨Try.func55, by kernel_rfl, by kernel_rfl⟩ (allCons ⟨Try.func56, by kernel_rfl, by kernel_rfl⟩ (allCons ⟨Try.func57, by kernel_rfl, by kernel_rfl⟩ (allCons ⟨Try.func58, by kernel_rfl, by kernel_rfl⟩ (allCons ⟨Try.func59, by kernel_rfl, by kernel_rfl⟩ (allCons ⟨Try.func60, by kernel_rfl, by kernel_rfl⟩ (allCons ⟨Try.func61, by kernel_rfl, by kernel_rfl⟩ (allCons ⟨Try.func62, by kernel_rfl, by kernel_rfl⟩ (allCons ⟨Try.func63, by kernel_rfl, by kernel_rfl⟩ (allCons ⟨Try.func64, by kernel_rfl, by kernel_rfl⟩ (allCons ⟨Try.func65, by kernel_rfl, by kernel_rfl⟩ (allCons ⟨Try.func66, by kernel_rfl, by kernel_rfl⟩ (allCons ⟨Try.func67, by kernel_rfl, by kernel_rfl⟩ (allCons ⟨Try.func68, by kernel_rfl, by kernel_rfl⟩ (allCons ⟨Try.func69, by kernel_rfl, by kernel_rfl⟩ (allCons ⟨Try.func70, by kernel_rfl, by kernel_rfl⟩ (allCons ⟨Try.func71, by kernel_rfl, by kernel_rfl⟩ (allCons ⟨Try.func72, by kernel_rfl, by kernel_rfl⟩ (allCons ⟨Try.func73, by kernel_rfl, by kernel_rfl⟩ (allCons ⟨Try.func74, by kernel_rfl, by kernel_rfl⟩ (allCons ⟨Try.func75, by kernel_rfl, by kernel_rfl⟩ (allCons ⟨Try.func76, by kernel_rfl, by kernel_rfl⟩ (allCons ⟨Try.func77, by kernel_rfl, by kernel_rfl⟩ (allCons ⟨Try.func78, by kernel_rfl, by kernel_rfl⟩ (allCons ⟨Try.func79, by kernel_rfl, by kernel_rfl⟩ (allCons ⟨Try.func80, by kernel_rfl, by kernel_rfl⟩ (allCons ⟨Try.func81, by kernel_rfl, by kernel_rfl⟩ (allCons ⟨Try.func82, by kernel_rfl, by kernel_rfl⟩ (allCons ⟨Try.func83, by kernel_rfl, by kernel_rfl⟩ (allCons ⟨Try.func84, by kernel_rfl, by kernel_rfl⟩ (allCons ⟨Try.func85, by kernel_rfl, by kernel_rfl⟩ (allCons ⟨Try.func86, by kernel_rfl, by kernel_rfl⟩ (allCons ⟨Try.func87, by kernel_rfl, by kernel_rfl⟩ (allCons ⟨Try.func88, by kernel_rfl, by kernel_rfl⟩ (allCons ⟨Try.func89, by kernel_rfl, by kernel_rfl⟩ (allCons ⟨Try.func90, by kernel_rfl, by kernel_rfl⟩ (allCons ⟨Try.func91, by kernel_rfl, by kernel_rfl⟩ (allCons ⟨Try.func92, by kernel_rfl, by kernel_rfl⟩ (allCons ⟨Try.func93, by kernel_rfl, by kernel_rfl⟩ (allCons ⟨Try.func94, by kernel_rfl, by kernel_rfl⟩ (allCons ⟨Try.func95, by kernel_rfl, by kernel_rfl⟩ (allCons ⟨Try.func96, by kernel_rfl, by kernel_rfl⟩ (allCons ⟨Try.func97, by kernel_rfl, by kernel_rfl⟩ (allCons ⟨Try.func98, by kernel_rfl, by kernel_rfl⟩ (allCons ⟨Try.func99, by kernel_rfl, by kernel_rfl⟩ (allCons ⟨Try.func100, by kernel_rfl, by kernel_rfl⟩ (allCons ⟨Try.func101, by kernel_rfl, by kernel_rfl⟩ (allCons ⟨Try.func102, by kernel_rfl, by kernel_rfl⟩ (allCons ⟨Try.func103, by kernel_rfl, by kernel_rfl⟩ (allCons ⟨Try.func104, by kernel_rfl, by kernel_rfl⟩ (allCons ⟨Try.func105, by kernel_rfl, by kernel_rfl⟩ (allCons ⟨Try.func106, by kernel_rfl, by kernel_rfl⟩ (allCons ⟨Try.func107, by kernel_rfl, by kernel_rfl⟩ (allCons ⟨Try.func108, by kernel_rfl, by kernel_rfl⟩ (allCons ⟨Try.func109, by kernel_rfl, by kernel_rfl⟩ (allCons ⟨Try.func110, by kernel_rfl, by kernel_rfl⟩ (allCons ⟨Try.func111, by kernel_rfl, by kernel_rfl⟩ (allCons ⟨Try.func112, by kernel_rfl, by kernel_rfl⟩ (allCons ⟨Try.func113, by kernel_rfl, by kernel_rfl⟩ (allCons ⟨Try.func114, by kernel_rfl, by kernel_rfl⟩ (allCons ⟨Try.func115, by kernel_rfl, by kernel_rfl⟩ (allCons ⟨Try.func116, by kernel_rfl, by kernel_rfl⟩ (allCons ⟨Try.func117, by kernel_rfl, by kernel_rfl⟩ (allCons ⟨Try.func118, by kernel_rfl, by kernel_rfl⟩ (allCons ⟨Try.func119, by kernel_rfl, by kernel_rfl⟩ (allCons ⟨Try.func120, by kernel_rfl, by kernel_rfl⟩ (allCons ⟨Try.func121, by kernel_rfl, by kernel_rfl⟩ (allCons ⟨Try.func122, by kernel_rfl, by kernel_rfl⟩ (allCons ⟨Try.func123, by kernel_rfl, by kernel_rfl⟩ (allCons ⟨Try.func124, by kernel_rfl, by kernel_rfl⟩ (allCons ⟨Try.func125, by kernel_rfl, by kernel_rfl⟩ (allCons ⟨Try.func126, by kernel_rfl, by kernel_rfl⟩ (allCons ⟨Try.func127, by kernel_rfl, by kernel_rfl⟩ (allCons ⟨Try.func128, by kernel_rfl, by kernel_rfl⟩ (allCons ⟨Try.func129, by kernel_rfl, by kernel_rfl⟩ (allCons ⟨Try.func130, by kernel_rfl, by kernel_rfl⟩ (allCons ⟨Try.func131, by kernel_rfl, by kernel_rfl⟩ (allCons ⟨Try.func132, by kernel_rfl, by kernel_rfl⟩ (allCons ⟨Try.func133, by kernel_rfl, by kernel_rfl⟩ (allCons ⟨Try.func134, by kernel_rfl, by kernel_rfl⟩ (allCons ⟨Try.func135, by kernel_rfl, by kernel_rfl⟩ (allCons ⟨Try.func136, by kernel_rfl, by kernel_rfl⟩ (allCons ⟨Try.func137, by kernel_rfl, by kernel_rfl⟩ (allCons ⟨Try.func138, by kernel_rfl, by kernel_rfl⟩ (allCons ⟨Try.func139, by kernel_rfl, by kernel_rfl⟩ (allCons ⟨Try.func140, by kernel_rfl, by kernel_rfl⟩ (allCons ⟨Try.func141, by kernel_rfl, by kernel_rfl⟩ (allCons ⟨Try.func142, by kernel_rfl, by kernel_rfl⟩ (allCons ⟨Try.func143, by kernel_rfl, by kernel_rfl⟩ (allCons ⟨Try.func144, by kernel_rfl, by kernel_rfl⟩ (allCons ⟨Try.func145, by kernel_rfl, by kernel_rfl⟩ (allCons ⟨Try.func146, by kernel_rfl, by kernel_rfl⟩ (allCons ⟨Try.func147, by kernel_rfl, by kernel_rfl⟩ (allCons ⟨Try.func148, by kernel_rfl, by kernel_rfl⟩ (allCons ⟨Try.func149, by kernel_rfl, by kernel_rfl⟩ (allCons ⟨Try.func150, by kernel_rfl, by kernel_rfl⟩ (allCons ⟨Try.func151, by kernel_rfl, by kernel_rfl⟩ (allCons ⟨Try.func152, by kernel_rfl, by kernel_rfl⟩ (allCons ⟨Try.func153, by kernel_rfl, by kernel_rfl⟩ (allCons ⟨Try.func154, by kernel_rfl, by kernel_rfl⟩ (allCons ⟨Try.func155, by kernel_rfl, by kernel_rfl⟩ (allCons ⟨Try.func156, by kernel_rfl, by kernel_rfl⟩ (allCons ⟨Try.func157, by kernel_rfl, by kernel_rfl⟩ (allCons ⟨Try.func158, by kernel_rfl, by kernel_rfl⟩ (allCons ⟨Try.func159, by kernel_rfl, by kernel_rfl⟩ (allCons ⟨Try.func160, by kernel_rfl, by kernel_rfl⟩ (allCons ⟨Try.func161, by kernel_rfl, by kernel_rfl⟩ (allCons ⟨Try.func162, by kernel_rfl, by kernel_rfl⟩ (allCons ⟨Try.func163, by kernel_rfl, by kernel_rfl⟩ (allCons ⟨Try.func164, by kernel_rfl, by kernel_rfl⟩ (allCons ⟨Try.func165, by kernel_rfl, by kernel_rfl⟩ (allCons ⟨Try.func166, by kernel_rfl, by kernel_rfl⟩ (allCons ⟨Try.func167, by kernel_rfl, by kernel_rfl⟩ (allCons ⟨Try.func168, by kernel_rfl, by kernel_rfl⟩ (allCons ⟨Try.func169, by kernel_rfl, by kernel_rfl⟩ (allCons ⟨Try.func170, by kernel_rfl, by kernel_rfl⟩ (allCons ⟨Try.func171, by kernel_rfl, by kernel_rfl⟩ (allCons ⟨Try.func172, by kernel_rfl, by kernel_rfl⟩ (allCons ⟨Try.func173, by kernel_rfl, by kernel_rfl⟩ (allNil))))))))))))))))))))))))))))))))))))))))))))))))))))))))))))))))))))))))))))))))))))))))))))))))))))))))))))))))))))))))))))))))))))))))))))))))))))))))))))))))))))))))))))
noncomputable def fns : FuncId → Option Func := fun f => fnTab.lookup f
theorem fns_ok : FnsOk Try.prog fns := fun f fn h => fnTab_ok (f, fn) (mem_of_lookup h)
def orc : Sem1 := fun _ _ => none
theorem orc_ok : CallsOk Try.prog orc := fun f _ rs h => by cases h
noncomputable def E : Env := ⟨tab, fns, hints, orc⟩
theorem strAdd {tab : Tab} {t : Nat} {a b : ByteArray} (h : a.size + b.size ≤ maxStr) : binV tab .add t (.string a) (.string b) = some (.string (a ++ b)) := by
  show (if a.size + b.size ≤ maxStr then some (Value.string (a ++ b)) else none) = _
  rw [if_pos h]
theorem runs {f : FuncId} {xs : List (Sl Unit Unit)} {x : Value} (h : Does E f xs [(false, [.v x])]) {w : World} {ad : List DSl} {vs : List Value} (he : ad.map Sl.er = xs) (hA : ArgsOk w ad vs) :
    Calls Try.prog f vs.toArray w fun e w' => e = .returned x ∧ RowKit.Below w.heap.size w w' := Does.plain tab_ok fns_ok orc_ok h he hA
end Go.Proofs.Ytbphhigmepdohaa.Am
